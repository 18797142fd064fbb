import PyProof.Rows.All
import Wide.All
import OpenK.AllK
import Wide.FinOn
import HandS.Set
import HandS.SetTxt0
import HandS.SetFor
import HandS.Strs
import PyProof.WalksMore
import HandS.ForMost
import HandS.Style
import HandS.TupAny
import HandS.IsInst
import HandS.SetKeys
import KE.DataEq
import KE.SortData
import HandS.TupMul
import HandS.WideBits
import PyProof.StrBlock2
import HandS.TupLen
import HandS.More
import HandS.Conv
import KE.DataFind
import PyProof.SeqIndex
import KE.DataMinMax
import HandS.Text
import PyProof.DictMoreH
import KE.KDictWalk
import HandS.NoneIn
import HandS.EndBits
import PySem.Challenge.RW_talehands_k26_what_is_a_plot
set_option Elab.async false
set_option linter.all false
set_option maxRecDepth 100000
/-! The clean evaluator: values without addresses (tuples by value, lists and dicts in a list of cells), statements as a total function into Option. -/
namespace TH

inductive CV where
  | non | bl (b : Bool) | int (i : Int) | str (s : List Nat) | tup (xs : List CV) | lst (xs : List CV) | ref (n : Nat)

mutual
def CV.beq : CV → CV → Bool
  | .non, .non => true
  | .bl a, .bl b => a == b
  | .int a, .int b => a == b
  | .str a, .str b => a == b
  | .tup a, .tup b => CV.beqs a b
  | .lst a, .lst b => CV.beqs a b
  | .ref a, .ref b => a == b
  | _, _ => false
def CV.beqs : List CV → List CV → Bool
  | [], [] => true
  | a :: as, b :: bs => CV.beq a b && CV.beqs as bs
  | _, _ => false
end
mutual
theorem CV.beq_iff : ∀ a b : CV, CV.beq a b = true ↔ a = b
  | .non, b => by cases b <;> simp [CV.beq]
  | .bl _, b => by cases b <;> simp [CV.beq]
  | .int _, b => by cases b <;> simp [CV.beq]
  | .str _, b => by cases b <;> simp [CV.beq]
  | .tup xs, b => by
    cases b with
    | tup ys => simp only [CV.beq, CV.tup.injEq]; exact CV.beqs_iff xs ys
    | _ => simp [CV.beq]
  | .lst xs, b => by
    cases b with
    | lst ys => simp only [CV.beq, CV.lst.injEq]; exact CV.beqs_iff xs ys
    | _ => simp [CV.beq]
  | .ref _, b => by cases b <;> simp [CV.beq]
theorem CV.beqs_iff : ∀ a b : List CV, CV.beqs a b = true ↔ a = b
  | [], b => by cases b <;> simp [CV.beqs]
  | a :: as, b => by
    cases b with
    | nil => simp [CV.beqs]
    | cons b bs => simp only [CV.beqs, Bool.and_eq_true, List.cons.injEq, CV.beq_iff a b, CV.beqs_iff as bs]
end
instance : DecidableEq CV := fun a b => if h : CV.beq a b = true then .isTrue ((CV.beq_iff a b).mp h) else .isFalse fun e => h ((CV.beq_iff a b).mpr e)

/-- cells -/
inductive CO where
  | lst (xs : List CV) | frz (xs : List CV) | dct (kvs : List (CV × CV)) | lkd (kvs : List (CV × CV)) | set (xs : List CV)
abbrev CH := List CO
abbrev Env := List (Option CV)
/-- most items of a list, signs of a text -/
def lim : Nat := 16777216

/-! ### data: lists read off the cells -/
mutual
def den (h : CH) : Nat → CV → Option CV
  | _, .non => some .non
  | _, .bl b => some (.bl b)
  | _, .int i => some (.int i)
  | _, .str s => some (.str s)
  | 0, .tup _ => none
  | 0, .ref _ => none
  | _, .lst _ => none
  | n + 1, .tup xs => (dens h n xs).map .tup
  | n + 1, .ref r => match h[r]? with
    | some (.lst xs) => (dens h n xs).map .lst
    | some (.frz xs) => (dens h n xs).map .lst
    | _ => none
def dens (h : CH) : Nat → List CV → Option (List CV)
  | _, [] => some []
  | n, x :: xs => (den h n x).bind fun y => (dens h n xs).bind fun ys => some (y :: ys)
end
/- == of data -/
mutual
def ceq : CV → CV → Bool
  | .non, .non => true
  | .bl a, .bl b => a == b
  | .bl a, .int j => (if a then 1 else 0) == j
  | .int i, .bl b => i == (if b then 1 else 0)
  | .int i, .int j => i == j
  | .str x, .str y => x == y
  | .lst xs, .lst ys => ceqs xs ys
  | .tup xs, .tup ys => ceqs xs ys
  | _, _ => false
def ceqs : List CV → List CV → Bool
  | [], [] => true
  | x :: xs, y :: ys => ceq x y && ceqs xs ys
  | _, _ => false
end
/-- < of texts by code points -/
def slt : List Nat → List Nat → Bool
  | [], [] => false
  | [], _ :: _ => true
  | _ :: _, [] => false
  | x :: xs, y :: ys => if x = y then slt xs ys else decide (x < y)
/- < of data that are alike -/
mutual
def clt : CV → CV → Bool
  | .bl a, .bl b => !a && b
  | .int i, .int j => decide (i < j)
  | .str x, .str y => slt x y
  | .tup xs, .tup ys => clts xs ys
  | .lst xs, .lst ys => clts xs ys
  | _, _ => false
def clts : List CV → List CV → Bool
  | [], [] => false
  | [], _ :: _ => true
  | _ :: _, [] => false
  | x :: xs, y :: ys => if ceq x y then clts xs ys else clt x y
end
/- the two can be compared, place by place -/
mutual
def clike : CV → CV → Bool
  | .non, .non => true
  | .bl _, .bl _ => true
  | .int _, .int _ => true
  | .str _, .str _ => true
  | .lst xs, .lst ys => clikes xs ys
  | .tup xs, .tup ys => clikes xs ys
  | _, _ => false
def clikes : List CV → List CV → Bool
  | x :: xs, y :: ys => clike x y && clikes xs ys
  | [], _ => true
  | _ :: _, [] => true
end
def cle (a b : CV) : Bool := !clt b a
/-- a list that sorted takes: all alike; tuples with an item, or no tuples and no None -/
def sortable (xs : List CV) : Bool :=
  (xs.all fun a => xs.all fun b => clike a b) && ((xs.all fun a => match a with | .tup (_ :: _) => true | _ => false) || (xs.all fun a => match a with | .tup _ => false | .non => false | _ => true))

/-! ### dicts -/
def leafK : CV → Bool
  | .int _ => true | .str _ => true | _ => false
def tupK : CV → Bool
  | .tup xs => xs.all leafK | _ => false
/-- keys of one kind -/
def keysOk (ks : List CV) : Bool := ks.all leafK || ks.all tupK
def dget (kvs : List (CV × CV)) (k : CV) : Option CV := (kvs.find? fun kv => decide (kv.1 = k)).map (·.2)
def dput (kvs : List (CV × CV)) (k v : CV) : List (CV × CV) :=
  if kvs.any (fun kv => decide (kv.1 = k)) then kvs.map fun kv => if kv.1 = k then (kv.1, v) else kv else kvs ++ [(k, v)]
def kok (kvs : List (CV × CV)) (k : CV) : Bool := keysOk (k :: kvs.map (·.1))

/-! ### operators -/
inductive BOp where | add | sub | mul | fdiv | mod | pow
inductive COp where | eq | ne | lt | le | gt | ge | isin | notin | is | isnot
inductive Ty where | int | str | bool | tup | lst | dct
inductive Bi where | len | all | any | tuple | list | set | sorted | int | abs | divmod | min1 | max1 | min2 | max2 | sum | isi (t : Ty) | dict1
inductive Me where | append | get | setdefault | pop | remove | index | count | extend | join | partition | split | upper

abbrev Out := Option (CV × CH)
def newc (h : CH) (o : CO) : Out := some (.ref h.length, h ++ [o])
def rdl (h : CH) (r : Nat) : Option (List CV) := match h[r]? with
  | some (.lst xs) => some xs
  | some (.frz xs) => some xs
  | _ => none
def b64 (i : Int) : Bool := decide (-(2 ^ 64) < i) && decide (i < 2 ^ 64)
def bitsOk (i j : Int) : Bool := decide (i.natAbs.log2 + j.natAbs.log2 + 2 ≤ 134217728)
def repS (s : List Nat) : Nat → List Nat
  | 0 => []
  | n + 1 => s ++ repS s n
def binV : BOp → CV → CV → CH → Out
  | .add, .int i, .int j, h => some (.int (i + j), h)
  | .add, .str a, .str b, h => if a.length + b.length ≤ lim then some (.str (a ++ b), h) else none
  | .add, .tup a, .tup b, h => if a.length + b.length ≤ lim then some (.tup (a ++ b), h) else none
  | .add, .ref a, .ref b, h => match h[a]?, h[b]? with
    | some (.lst xs), some (.lst ys) => if xs.length + ys.length ≤ lim then newc h (.lst (xs ++ ys)) else none
    | _, _ => none
  | .sub, .int i, .int j, h => some (.int (i - j), h)
  | .mul, .int i, .int j, h => if b64 i || b64 j || bitsOk i j then some (.int (i * j), h) else none
  | .mul, .str s, .int k, h => if k < 2 ^ 62 ∧ -(2 ^ 62) < k ∧ s.length * k.toNat ≤ lim then some (.str (repS s k.toNat), h) else none
  | .mul, .tup xs, .int k, h => if 2 ≤ k ∧ k ≤ 1000 ∧ xs ≠ [] ∧ xs.length ≤ 1000 then some (.tup (List.replicate k.toNat xs).flatten, h) else none
  | .mul, .ref r, .int k, h => match h[r]? with
    | some (.lst xs) => if -(2 ^ 62) < k ∧ k < 2 ^ 62 ∧ xs.length * k.toNat ≤ lim then newc h (.lst (List.replicate k.toNat xs).flatten) else none
    | _ => none
  | .fdiv, .int i, .int j, h => if 0 < j ∧ j < 1073741824 then some (.int (i / j), h) else none
  | .mod, .int i, .int j, h => if 0 < j then some (.int (i % j), h) else none
  | .pow, .int i, .int j, h => if 0 ≤ j ∧ j ≤ 1000000 ∧ i.natAbs < 2 ^ 64 then some (.int (i ^ j.toNat), h) else none
  | _, _, _, _ => none
def dep : Nat := 20
def eqV (h : CH) (a b : CV) : Option Bool := (den h dep a).bind fun x => (den h dep b).bind fun y => some (ceq x y)
/-- x in c -/
def inV (h : CH) (a b : CV) : Option Bool := match b with
  | .str t => match a with
    | .str [c] => some (decide (c ∈ t))
    | _ => none
  | .tup ys => (den h dep a).bind fun x => (dens h dep ys).bind fun zs => some (zs.any fun z => ceq z x)
  | .ref r => match h[r]? with
    | some (.lst ys) => (den h dep a).bind fun x => (dens h dep ys).bind fun zs => some (zs.any fun z => ceq z x)
    | some (.frz ys) => (den h dep a).bind fun x => (dens h dep ys).bind fun zs => some (zs.any fun z => ceq z x)
    | some (.dct kvs) => if kok kvs a then some (dget kvs a).isSome else none
    | some (.lkd kvs) => if kok kvs a && !kvs.isEmpty then some (dget kvs a).isSome else none
    | _ => none
  | _ => none
def cmpV : COp → CV → CV → CH → Option Bool
  | .eq, a, b, h => eqV h a b
  | .ne, a, b, h => (eqV h a b).map (!·)
  | .lt, .int i, .int j, _ => some (decide (i < j))
  | .le, .int i, .int j, _ => some (decide (i ≤ j))
  | .gt, .int i, .int j, _ => some (decide (j < i))
  | .ge, .int i, .int j, _ => some (decide (j ≤ i))
  | .isin, a, b, h => inV h a b
  | .notin, a, b, h => (inV h a b).map (!·)
  | .is, a, .non, _ => some (decide (a = .non))
  | .isnot, a, .non, _ => some (decide (a ≠ .non))
  | .is, .bl a, .bl b, _ => some (a == b)
  | .isnot, .bl a, .bl b, _ => some (a != b)
  | _, _, _, _ => none
/-- the place of an index -/
def ixN (n : Nat) (i : Int) : Option Nat := if 0 ≤ i then (if i < n then some i.toNat else none) else if -(n : Int) ≤ i then some (i + n).toNat else none
def atI {α : Type} (xs : List α) (i : Int) : Option α := (ixN xs.length i).bind fun j => xs[j]?
def ixV (a i : CV) (h : CH) : Option CV := match i with
  | .int k => match a with
    | .tup xs => atI xs k
    | .lst xs => atI xs k
    | .str s => if s.length ≤ lim then (atI s k).map fun c => .str [c] else none
    | .ref r => match h[r]? with
      | some (.lst xs) => atI xs k
      | some (.frz xs) => atI xs k
      | some (.dct kvs) => if kok kvs i then dget kvs i else none
      | some (.lkd kvs) => if kok kvs i && !kvs.isEmpty then dget kvs i else none
      | _ => none
    | _ => none
  | _ => match a with
    | .ref r => match h[r]? with
      | some (.dct kvs) => if kok kvs i then dget kvs i else none
      | some (.lkd kvs) => if kok kvs i && !kvs.isEmpty then dget kvs i else none
      | _ => none
    | _ => none
/-- a slice's ends -/
def sIx (n d : Nat) : Option Int → Nat
  | none => d
  | some i => if 0 ≤ i then min i.toNat n else (i + n).toNat
def cut {α : Type} (xs : List α) (lo hi : Option Int) : List α := (xs.drop (sIx xs.length 0 lo)).take (sIx xs.length xs.length hi - sIx xs.length 0 lo)
def slV (a : CV) (lo hi : Option Int) (h : CH) : Out := match a with
  | .tup xs => some (.tup (cut xs lo hi), h)
  | .lst xs => newc h (.lst (cut xs lo hi))
  | .str s => if s.length ≤ lim then some (.str (cut s lo hi), h) else none
  | .ref r => match rdl h r with
    | some xs => newc h (.lst (cut xs lo hi))
    | none => none
  | _ => none
def revV (a : CV) (h : CH) : Out := match a with
  | .tup xs => some (.tup xs.reverse, h)
  | .ref r => match rdl h r with
    | some xs => newc h (.lst xs.reverse)
    | none => none
  | _ => none
def setV (a i v : CV) (h : CH) : Option CH := match a with
  | .ref r => match h[r]? with
    | some (.lst xs) => match i with
      | .int k => (ixN xs.length k).map fun j => h.set r (.lst (xs.set j v))
      | _ => none
    | some (.dct kvs) => if kok kvs i && decide (kvs.length < lim) then some (h.set r (.dct (dput kvs i v))) else none
    | _ => none
  | _ => none

/-! ### built-ins -/
def ints? : List CV → Option (List Int)
  | [] => some []
  | .int i :: r => (ints? r).map (i :: ·)
  | _ => none
def bools? : List CV → Option (List Bool)
  | [] => some []
  | .bl b :: r => (bools? r).map (b :: ·)
  | _ => none
def strs? : List CV → Option (List (List Nat))
  | [] => some []
  | .str s :: r => (strs? r).map (s :: ·)
  | _ => none
/-- the items of a list, a tuple -/
def items (h : CH) : CV → Option (List CV)
  | .tup xs => some xs
  | .ref r => rdl h r
  | _ => none
def isiV (t : Ty) (a : CV) (h : CH) : Option Bool := match t, a with
  | .int, .int _ => some true
  | .int, .bl _ => some true
  | .bool, .bl _ => some true
  | .str, .str _ => some true
  | .tup, .tup _ => some true
  | .lst, .ref r => match h[r]? with
    | some (.lst _) => some true
    | some (.frz _) => some true
    | some (.dct _) => some false
    | _ => none
  | .dct, .ref r => match h[r]? with
    | some (.lst _) => some false
    | some (.frz _) => some false
    | some (.dct _) => some true
    | _ => none
  | _, .ref r => match h[r]? with
    | some (.lst _) => some false
    | some (.frz _) => some false
    | some (.dct _) => some false
    | _ => none
  | _, .lst _ => none
  | _, _ => some false
/-- each once, by its first place -/
def nub : List CV → List CV
  | [] => []
  | x :: xs => x :: (nub xs).filter fun y => decide (y ≠ x)
/-- a key of a set -/
def hashable : CV → Bool
  | .int _ => true | .str _ => true | _ => false
def isTxt : CV → Bool
  | .str _ => true
  | _ => false
/-- what sorted takes -/
def iterable (h : CH) : CV → Option (List CV)
  | .tup xs => some xs
  | .ref r => match h[r]? with
    | some (.lst xs) => some xs
    | some (.frz xs) => some xs
    | some (.dct kvs) => some (kvs.map (·.1))
    | some (.set xs) => if xs.all isTxt = true then some xs else none
    | _ => none
  | _ => none
def isTx : CV → Bool
  | .str _ => true
  | _ => false
def isTp : CV → Bool
  | .tup _ => true
  | _ => false
def isIn : CV → Bool
  | .int _ => true
  | _ => false
def insC (ks : List CV) (k : CV) : List CV := if k ∈ ks then ks else k :: ks
def insAllC (ks : List CV) : List CV → List CV
  | [] => ks
  | k :: r => insAllC (insC ks k) r
def minL : List CV → Option CV
  | [] => none
  | x :: xs => some (xs.foldl (fun m y => if clt y m then y else m) x)
def pairs? : List CV → Option (List (CV × CV))
  | [] => some []
  | .tup [k, v] :: r => (pairs? r).map ((k, v) :: ·)
  | _ => none
/-- the first of the least -/
def minC : List CV → Option CV
  | [] => none
  | x :: xs => some (xs.foldl (fun a y => if clt y a = true then y else a) x)
def biV : Bi → List CV → CH → Out
  | .len, [a], h => match a with
    | .str s => if s.length ≤ lim then some (.int s.length, h) else none
    | .tup xs => some (.int xs.length, h)
    | .lst xs => some (.int xs.length, h)
    | .ref r => match h[r]? with
      | some (.lst xs) => some (.int xs.length, h)
      | some (.frz xs) => some (.int xs.length, h)
      | some (.dct kvs) => some (.int kvs.length, h)
      | some (.set xs) => some (.int xs.length, h)
      | _ => none
    | _ => none
  | .all, [.ref r], h => ((rdl h r).bind bools?).map fun bs => (.bl (bs.all id), h)
  | .any, [.ref r], h => ((rdl h r).bind bools?).map fun bs => (.bl (bs.any id), h)
  | .tuple, [a], h => (items h a).map fun xs => (.tup xs, h)
  | .list, [a], h => (items h a).bind fun xs => newc h (.lst xs)
  | .int, [.int i], h => some (.int i, h)
  | .int, [.bl b], h => some (.int (if b then 1 else 0), h)
  | .abs, [.int i], h => some (.int (if i < 0 then -i else i), h)
  | .divmod, [.int i, .int j], h => if 0 < j ∧ j < 1073741824 then some (.tup [.int (i / j), .int (i % j)], h) else none
  | .min2, [.int i, .int j], h => some (.int (if j < i then j else i), h)
  | .max2, [.int i, .int j], h => some (.int (if j > i then j else i), h)
  | .sum, [.ref r], h => ((rdl h r).bind ints?).map fun ns => (.int ns.sum, h)
  | .isi t, [a], h => (isiV t a h).map fun b => (.bl b, h)
  | .sorted, [a], h => (iterable h a).bind fun xs => (dens h dep xs).bind fun ds => if ds = xs ∧ sortable xs = true then newc h (.lst (xs.mergeSort cle)) else none
  | .set, [a], h => (items h a).bind fun xs => if xs.all isTx = true ∧ xs.length ≤ 4000 then newc h (.set (insAllC [] xs)) else if xs.all isIn = true ∧ xs.Nodup ∧ xs.length ≤ 4000 ∧ isTp a = true then newc h (.set xs) else none
  | .dict1, [.ref r], h => (rdl h r).bind fun xs => (pairs? xs).bind fun ps => if ps.all (fun p => leafK p.1) = true then newc h (.dct (ps.foldl (fun acc kv => dput acc kv.1 kv.2) [])) else none
  | .min1, [.ref r], h => (rdl h r).bind fun xs => (dens h dep xs).bind fun ds => if ds = xs ∧ sortable xs = true then (minC xs).map fun x => (x, h) else none
  | _, _, _ => none
/-- where a text stands in another, parted once -/
def isPre (p l : List Nat) : Bool := l.take p.length == p
def partS (S : List Nat) : List Nat → List Nat → Option (List Nat × List Nat)
  | acc, [] => if isPre S [] then some (acc, []) else none
  | acc, c :: l => if isPre S (c :: l) then some (acc, (c :: l).drop S.length) else partS S (acc ++ [c]) l
/-- a text parted at one sign -/
def splitC (c : Nat) : List Nat → List (List Nat)
  | [] => [[]]
  | d :: l => if d = c then [] :: splitC c l else match splitC c l with
    | [] => [[d]]
    | w :: ws => (d :: w) :: ws
def joinS (S : List Nat) : List (List Nat) → List Nat
  | [] => []
  | [x] => x
  | x :: y :: r => x ++ S ++ joinS S (y :: r)
def upC (c : Nat) : Nat := if 97 ≤ c ∧ c ≤ 122 then c - 32 else c
def eqFst (h : CH) (a : CV) (xs : List CV) : Option (Option Nat) := (den h dep a).bind fun x => (dens h dep xs).bind fun zs => some (zs.findIdx? fun z => ceq z x)
def meV : Me → CV → List CV → CH → Out
  | .append, .ref r, [v], h => match h[r]? with
    | some (.lst xs) => if xs.length < lim then some (.non, h.set r (.lst (xs ++ [v]))) else none
    | _ => none
  | .extend, .ref r, [.ref q], h => match h[r]?, h[q]? with
    | some (.lst xs), some (.lst ys) => if xs.length + ys.length ≤ lim then some (.non, h.set r (.lst (xs ++ ys))) else none
    | _, _ => none
  | .pop, .ref r, [.int i], h => match h[r]? with
    | some (.lst xs) => (ixN xs.length i).bind fun j => xs[j]?.map fun y => (y, h.set r (.lst (xs.eraseIdx j)))
    | _ => none
  | .remove, .ref r, [v], h => match h[r]? with
    | some (.lst xs) => (eqFst h v xs).bind fun o => o.map fun j => (.non, h.set r (.lst (xs.eraseIdx j)))
    | _ => none
  | .index, a, [v], h => (items h a).bind fun xs => (eqFst h v xs).bind fun o => o.map fun (j : Nat) => (CV.int (j : Int), h)
  | .count, a, [v], h => (items h a).bind fun xs => (den h dep v).bind fun x => (dens h dep xs).map fun zs => (.int (zs.countP fun z => ceq z x), h)
  | .get, .ref r, [k, d], h => match h[r]? with
    | some (.dct kvs) => if kok kvs k then some ((dget kvs k).getD d, h) else none
    | some (.lkd kvs) => if kok kvs k && !kvs.isEmpty then some ((dget kvs k).getD d, h) else none
    | _ => none
  | .setdefault, .ref r, [k, d], h => match h[r]? with
    | some (.dct kvs) => if kok kvs k && decide (kvs.length < lim) then match dget kvs k with
      | some v => some (v, h)
      | none => some (d, h.set r (.dct (dput kvs k d))) else none
    | _ => none
  | .join, .str s, [a], h => ((items h a).bind strs?).bind fun ys => if (joinS s ys).length + s.length ≤ lim then some (.str (joinS s ys), h) else none
  | .partition, .str s, [.str [c]], h => if s.length ≤ lim then match partS [c] [] s with
      | some (a, b) => some (.tup [.str a, .str [c], .str b], h)
      | none => some (.tup [.str s, .str [], .str []], h) else none
  | .split, .str s, [.str [c]], h => if s.length + 2 ≤ lim ∧ c < 256 then newc h (.lst ((splitC c s).map .str)) else none
  | .upper, .str s, [], h => if s.length ≤ 1000 ∧ s.all (fun c => decide (c < 128)) = true then some (.str (s.map upC), h) else none
  | _, _, _, _ => none

/-- the receiver is of the method's type -/
def recvOk (m : Me) (o : CV) (h : CH) : Bool := match m, o with
  | .append, .ref r => match h[r]? with | some (.lst _) => true | _ => false
  | .extend, .ref r => match h[r]? with | some (.lst _) => true | _ => false
  | .pop, .ref r => match h[r]? with | some (.lst _) => true | _ => false
  | .remove, .ref r => match h[r]? with | some (.lst _) => true | _ => false
  | .index, .ref r => match h[r]? with | some (.lst _) => true | some (.frz _) => true | _ => false
  | .count, .ref r => match h[r]? with | some (.lst _) => true | some (.frz _) => true | _ => false
  | .get, .ref r => match h[r]? with | some (.dct _) => true | some (.lkd _) => true | _ => false
  | .setdefault, .ref r => match h[r]? with | some (.dct _) => true | _ => false
  | .join, .str _ => true
  | .partition, .str _ => true
  | .split, .str _ => true
  | .upper, .str _ => true
  | _, _ => false

/-! ### what a loop walks -/
inductive Src where
  | ints (lo : Int) (n : Nat) | tup (xs : List CV) | cell (r : Nat) | str (s : List Nat) | keys (r : Nat) | vals (r : Nat)
def Src.len (h : CH) : Src → Nat
  | .ints _ n => n
  | .tup xs => xs.length
  | .cell r => ((rdl h r).getD []).length
  | .str s => s.length
  | .keys r => match h[r]? with | some (.lkd kvs) => kvs.length | _ => 0
  | .vals r => match h[r]? with | some (.lkd kvs) => kvs.length | _ => 0
/-- the item at a turn: none: stuck; some none: the end -/
def Src.item (h : CH) (i : Nat) : Src → Option (Option CV)
  | .ints lo n => some (if i < n then some (.int (lo + i)) else none)
  | .tup xs => some xs[i]?
  | .cell r => (rdl h r).map fun xs => xs[i]?
  | .str s => some (s[i]?.map fun c => .str [c])
  | .keys r => match h[r]? with | some (.lkd kvs) => some (kvs[i]?.map (·.1)) | _ => none
  | .vals r => match h[r]? with | some (.lkd kvs) => some (kvs[i]?.map (·.2)) | _ => none
def lockC (h : CH) (r : Nat) : Option CH := match h[r]? with
  | some (.dct kvs) => some (h.set r (.lkd kvs))
  | _ => none
def unlockC (h : CH) (r : Nat) : Option CH := match h[r]? with
  | some (.lkd kvs) => some (h.set r (.dct kvs))
  | _ => none
/-- a dict whose first key is no tuple -/
def hLeaf (h : CH) (r : Nat) : Bool := match h[r]? with
  | some (.dct (kv :: _)) => leafK kv.1
  | _ => false
/-- the turns of a loop: body is asked at each item -/
def loopGo {S : Type} (src : Src) (body : CV → S → CH → Option (S × CH)) : Nat → Nat → S → CH → Option (S × CH)
  | 0, i, s, h => match src.item h i with
    | some none => some (s, h)
    | _ => none
  | n + 1, i, s, h => match src.item h i with
    | some (some x) => (body x s h).bind fun p => loopGo src body n (i + 1) p.1 p.2
    | _ => none

/-! ### expressions -/
mutual
inductive CE where
  | var (i : Nat) | lit (v : CV) | glob (x : String) (v : CV)
  | bin (o : BOp) (a b : CE) | cmp (o : COp) (a b : CE) | cmp2 (o p : COp) (a b c : CE) | cmp3 (o p q : COp) (a b c d : CE)
  | and (a b : CE) | or (a b : CE) | not (a : CE) | neg (a : CE) | ite (c a b : CE)
  | tup (es : CEs) | lst (es : CEs) | dct0
  | ix (a i : CE) | sl (a : CE) (lo hi : CO1) | rev (a : CE)
  | call (f : Nat) (es : CEs) | bi (f : Bi) (es : CEs) | me (m : Me) (o : CE) (es : CEs)
  | comp (elt : CE) (i : Nat) (it : CI) (cond : CE) | compD (elt : CE) (i : Nat) (vl : Bool) (d : Nat) (cond : CE)
inductive CEs where | nil | cons (e : CE) (es : CEs)
inductive CO1 where | no | ex (e : CE)
inductive CI where | range1 (a : CE) | range2 (a b : CE) | val (e : CE)
end

/-- the functions of the text, by their number -/
abbrev Fns := Nat → List CV → CH → Out

section
variable (F : Fns)
/-- what a value that is walked is -/
def srcOf (h : CH) : CV → Option (Src × CH)
  | .tup xs => some (.tup xs, h)
  | .str s => some (.str s, h)
  | .ref r => match h[r]? with
    | some (.lst _) => some (.cell r, h)
    | some (.frz _) => some (.cell r, h)
    | _ => none
  | _ => none
def small62 (i : Int) : Bool := decide (-(2 ^ 62) ≤ i) && decide (i < 2 ^ 62)
mutual
def evalC : CE → Env → CH → Out
  | .var i, s, h => match s[i]? with
    | some (some v) => some (v, h)
    | _ => none
  | .lit v, _, h => some (v, h)
  | .glob _ v, _, h => some (v, h)
  | .bin o a b, s, h => (evalC a s h).bind fun p => (evalC b s p.2).bind fun q => binV o p.1 q.1 q.2
  | .cmp o a b, s, h => (evalC a s h).bind fun p => (evalC b s p.2).bind fun q => (cmpV o p.1 q.1 q.2).map fun r => (.bl r, q.2)
  | .cmp2 o o2 a b c, s, h => (evalC a s h).bind fun p => (evalC b s p.2).bind fun q => (cmpV o p.1 q.1 q.2).bind fun r =>
      if r = true then (evalC c s q.2).bind fun u => (cmpV o2 q.1 u.1 u.2).map fun r2 => (.bl r2, u.2) else some (.bl false, q.2)
  | .cmp3 o o2 o3 a b c d, s, h => (evalC a s h).bind fun p => (evalC b s p.2).bind fun q => (cmpV o p.1 q.1 q.2).bind fun r =>
      if r = true then (evalC c s q.2).bind fun u => (cmpV o2 q.1 u.1 u.2).bind fun r2 =>
        if r2 = true then (evalC d s u.2).bind fun w => (cmpV o3 u.1 w.1 w.2).map fun r3 => (.bl r3, w.2) else some (.bl false, u.2)
      else some (.bl false, q.2)
  | .and a b, s, h => (testC a s h).bind fun p => if p.1 = true then (testC b s p.2).map fun q => (.bl q.1, q.2) else some (.bl false, p.2)
  | .or a b, s, h => (testC a s h).bind fun p => if p.1 = true then some (.bl true, p.2) else (testC b s p.2).map fun q => (.bl q.1, q.2)
  | .not a, s, h => (testC a s h).map fun p => (.bl (!p.1), p.2)
  | .neg a, s, h => (evalC a s h).bind fun p => match p.1 with
    | .int i => some (.int (-i), p.2)
    | _ => none
  | .ite c a b, s, h => (testC c s h).bind fun p => if p.1 = true then evalC a s p.2 else evalC b s p.2
  | .tup es, s, h => (evalCs es s h).map fun p => (.tup p.1, p.2)
  | .lst es, s, h => (evalCs es s h).bind fun p => newc p.2 (.lst p.1)
  | .dct0, _, h => newc h (.dct [])
  | .ix a i, s, h => (evalC a s h).bind fun p => (evalC i s p.2).bind fun q => (ixV p.1 q.1 q.2).map fun v => (v, q.2)
  | .sl a lo hi, s, h => (evalC a s h).bind fun p => (evalO lo s p.2).bind fun q => (evalO hi s q.2).bind fun r => slV p.1 q.1 r.1 r.2
  | .rev a, s, h => (evalC a s h).bind fun p => revV p.1 p.2
  | .call f es, s, h => (evalCs es s h).bind fun p => F f p.1 p.2
  | .bi f es, s, h => (evalCs es s h).bind fun p => biV f p.1 p.2
  | .me m o es, s, h => (evalC o s h).bind fun p => if recvOk m p.1 p.2 = true then (evalCs es s p.2).bind fun q => meV m p.1 q.1 q.2 else none
  | .comp elt i it cond, s, h => (evalI it s h).bind fun p => if p.1.len p.2 ≤ lim then
      (loopGo p.1 (fun x acc h => (testC cond (s.set i (some x)) h).bind fun b => if b.1 = true then (evalC elt (s.set i (some x)) b.2).map fun y => (acc ++ [y.1], y.2) else some (acc, b.2)) (p.1.len p.2) 0 ([] : List CV) p.2).bind fun q => newc q.2 (.lst q.1)
      else none
  | .compD elt i vl d cond, s, h => match s[d]? with
    | some (some (.ref r)) => (lockC h r).bind fun h1 =>
        (loopGo (if vl = true then .vals r else .keys r) (fun x acc h => (testC cond (s.set i (some x)) h).bind fun b => if b.1 = true then (evalC elt (s.set i (some x)) b.2).map fun y => (acc ++ [y.1], y.2) else some (acc, b.2)) ((Src.keys r).len h1) 0 ([] : List CV) h1).bind fun q => (unlockC q.2 r).bind fun h2 => newc h2 (.lst q.1)
    | _ => none
def evalCs : CEs → Env → CH → Option (List CV × CH)
  | .nil, _, h => some ([], h)
  | .cons e es, s, h => (evalC e s h).bind fun p => (evalCs es s p.2).map fun q => (p.1 :: q.1, q.2)
def evalO : CO1 → Env → CH → Option (Option Int × CH)
  | .no, _, h => some (none, h)
  | .ex e, s, h => (evalC e s h).bind fun p => match p.1 with
    | .int i => some (some i, p.2)
    | _ => none
def evalI : CI → Env → CH → Option (Src × CH)
  | .range1 a, s, h => (evalC a s h).bind fun p => match p.1 with
    | .int j => if small62 j then some (.ints 0 j.toNat, p.2) else none
    | _ => none
  | .range2 a b, s, h => (evalC a s h).bind fun p => (evalC b s p.2).bind fun q => match p.1, q.1 with
    | .int i, .int j => if small62 i && small62 j then some (.ints i (j - i).toNat, q.2) else none
    | _, _ => none
  | .val e, s, h => (evalC e s h).bind fun p => srcOf p.2 p.1
/-- as a test: True or False -/
def testC : CE → Env → CH → Option (Bool × CH)
  | .and a b, s, h => (testC a s h).bind fun p => if p.1 = true then testC b s p.2 else some (false, p.2)
  | .or a b, s, h => (testC a s h).bind fun p => if p.1 = true then some (true, p.2) else testC b s p.2
  | .not a, s, h => (testC a s h).map fun p => (!p.1, p.2)
  | .lit (.bl b), _, h => some (b, h)
  | .var i, s, h => match s[i]? with
    | some (some (.bl b)) => some (b, h)
    | _ => none
  | .cmp o a b, s, h => (evalC a s h).bind fun p => (evalC b s p.2).bind fun q => (cmpV o p.1 q.1 q.2).map fun r => (r, q.2)
  | .cmp2 o o2 a b c, s, h => (evalC a s h).bind fun p => (evalC b s p.2).bind fun q => (cmpV o p.1 q.1 q.2).bind fun r =>
      if r = true then (evalC c s q.2).bind fun u => (cmpV o2 q.1 u.1 u.2).map fun r2 => (r2, u.2) else some (false, q.2)
  | .cmp3 o o2 o3 a b c d, s, h => (evalC a s h).bind fun p => (evalC b s p.2).bind fun q => (cmpV o p.1 q.1 q.2).bind fun r =>
      if r = true then (evalC c s q.2).bind fun u => (cmpV o2 q.1 u.1 u.2).bind fun r2 =>
        if r2 = true then (evalC d s u.2).bind fun w => (cmpV o3 u.1 w.1 w.2).map fun r3 => (r3, w.2) else some (false, u.2)
      else some (false, q.2)
  | .call f es, s, h => (evalCs es s h).bind fun p => (F f p.1 p.2).bind fun q => match q.1 with
    | .bl b => some (b, q.2)
    | _ => none
  | .bi f es, s, h => (evalCs es s h).bind fun p => (biV f p.1 p.2).bind fun q => match q.1 with
    | .bl b => some (b, q.2)
    | _ => none
  | _, _, _ => none
end

/-! ### statements -/
inductive CT where | nm (i : Nat) | tup (is : List Nat) | sub (o i : CE) | subnm (o i : CE) (n : Nat) | subsub (o i o2 i2 : CE)
mutual
inductive CS where
  | asg (t : CT) (e : CE) | par (i j : Nat) (a b : CE) | expr (e : CE) | ret (e : CE) | retn | iff (c : CE) (a b : CSs) | fo (t : CT) (it : CI) (b : CSs) | foD (t : CT) (d : Nat) (b : CSs) | wh (c : CE) (b : CSs) | pas | bad
inductive CSs where | nil | cons (s : CS) (ss : CSs)
end
inductive Fl where | nx | rt (v : CV)
def setN (s : Env) : List Nat → List CV → Option Env
  | [], [] => some s
  | i :: is, x :: xs => setN (s.set i (some x)) is xs
  | _, _ => none
def asgC (t : CT) (x : CV) (s : Env) (h : CH) : Option (Env × CH) := match t with
  | .nm i => some (s.set i (some x), h)
  | .tup is => match x with
    | .tup xs => (setN s is xs).map fun s' => (s', h)
    | .ref r => (rdl h r).bind fun xs => (setN s is xs).map fun s' => (s', h)
    | _ => none
  | .sub o i => (evalC F o s h).bind fun p => (evalC F i s p.2).bind fun q => (setV p.1 q.1 x q.2).map fun h' => (s, h')
  | .subnm o i n => match x with
    | .tup [y, z] => (evalC F o s h).bind fun p => (evalC F i s p.2).bind fun q => (setV p.1 q.1 y q.2).map fun h' => (s.set n (some z), h')
    | _ => none
  | .subsub o i o2 i2 => match x with
    | .tup [y, z] => (evalC F o s h).bind fun p => (evalC F i s p.2).bind fun q => (setV p.1 q.1 y q.2).bind fun h' =>
        (evalC F o2 s h').bind fun p => (evalC F i2 s p.2).bind fun q => (setV p.1 q.1 z q.2).map fun h' => (s, h')
    | _ => none
/-- the turns of a for -/
def forGo (src : Src) (body : CV → Env → CH → Option (Fl × Env × CH)) : Nat → Nat → Env → CH → Option (Fl × Env × CH)
  | 0, i, s, h => match src.item h i with
    | some none => some (.nx, s, h)
    | _ => none
  | n + 1, i, s, h => match src.item h i with
    | some (some x) => match body x s h with
      | some (.nx, s', h') => forGo src body n (i + 1) s' h'
      | r => r
    | _ => none
def whGo (test : Env → CH → Option (Bool × CH)) (body : Env → CH → Option (Fl × Env × CH)) : Nat → Env → CH → Option (Fl × Env × CH)
  | 0, _, _ => none
  | n + 1, s, h => match test s h with
    | some (true, h1) => match body s h1 with
      | some (.nx, s', h') => whGo test body n s' h'
      | r => r
    | some (false, h1) => some (.nx, s, h1)
    | none => none
variable (W : Nat)
mutual
def execC : CS → Env → CH → Option (Fl × Env × CH)
  | .asg t e, s, h => (evalC F e s h).bind fun p => (asgC F t p.1 s p.2).map fun q => (.nx, q.1, q.2)
  | .par i j a b, s, h => (evalC F a s h).bind fun p => (evalC F b s p.2).map fun q => (.nx, (s.set i (some p.1)).set j (some q.1), q.2)
  | .expr e, s, h => (evalC F e s h).map fun p => (.nx, s, p.2)
  | .ret e, s, h => (evalC F e s h).map fun p => (.rt p.1, s, p.2)
  | .retn, s, h => some (.rt .non, s, h)
  | .iff c a b, s, h => (testC F c s h).bind fun p => if p.1 = true then execCs a s p.2 else execCs b s p.2
  | .fo t it b, s, h => (evalI F it s h).bind fun p => forGo p.1 (fun x s h => (asgC F t x s h).bind fun q => execCs b q.1 q.2) (p.1.len p.2) 0 s p.2
  | .foD t d b, s, h => match s[d]? with
    | some (some (.ref r)) => (lockC h r).bind fun h1 => (forGo (.keys r) (fun x s h => (asgC F t x s h).bind fun q => execCs b q.1 q.2) ((Src.keys r).len h1) 0 s h1).bind fun q => (unlockC q.2.2 r).map fun h3 => (q.1, q.2.1, h3)
    | _ => none
  | .wh c b, s, h => whGo (testC F c) (execCs b) W s h
  | .pas, s, h => some (.nx, s, h)
  | .bad, _, _ => none
def execCs : CSs → Env → CH → Option (Fl × Env × CH)
  | .nil, s, h => some (.nx, s, h)
  | .cons a b, s, h => match execC a s h with
    | some (.nx, s', h') => execCs b s' h'
    | r => r
end
/-- a def called: n slots -/
def runC (n : Nat) (b : CSs) (args : List CV) (h : CH) : Out := match execCs F W b (args.map some ++ List.replicate (n - args.length) none) h with
  | some (.nx, _, h') => some (.non, h')
  | some (.rt v, _, h') => some (v, h')
  | none => none
end
/-- defs that call one another, so deep -/
def recF (F : Fns) (W : Nat) (bs : List (Nat × Nat × CSs)) : Nat → Fns
  | 0 => fun j => match bs.lookup j with
    | some _ => fun _ _ => none
    | none => F j
  | d + 1 => fun j => match bs.lookup j with
    | some (n, b) => runC (recF F W bs d) W n b
    | none => F j
end TH

set_option maxHeartbeats 4000000
/-! Sets of texts. -/
namespace TH
open PySem PySem.Spec PyProof.Rows L2
section
/-- the set of the texts ks at a -/
def TxR (P : Program) (w : World) (h : Heap) (a : Addr) (ks : List Str) : Prop := ∃ D : PySem.Froz.SD, h.get? a = some (PySem.Froz.sObj "set" D) ∧ PySem.Froz.TxOk P w D ks ∧ ks.Nodup ∧ Ris D.2.2.place.toList ∧ (w.params.followText "set-order" = true ∨ D.2.2.led = true) ∧ ks.length < scanBound
theorem TxR.at {P : Program} {w : World} {h h' : Heap} {a : Addr} {ks : List Str} (R : TxR P w h a ks) (k : ∀ o, h.get? a = some o → h'.get? a = some o) : TxR P w h' a ks := by
  obtain ⟨D, ho, r⟩ := R
  exact ⟨D, k _ ho, r⟩
def insT (ks : List Str) (k : Str) : List Str := if k ∈ ks then ks else k :: ks
variable {P : Program} {w : World} {A : Around} {E : Value → Shared → Prop} {s : Shared}
theorem tail_ris {ep : Nat} {es1 : Array (Int × Value)} {t2 : SetTable} {wd : Bool} (r : Ris t2.place.toList) : Ris (PySem.Froz.tailTx ep es1 t2 wd).2.2.place.toList := by
  unfold PySem.Froz.tailTx
  by_cases c : (!wd && t2.tooFull) = true
  · rw [if_pos c]; exact relayAll_ris _ _ _
  · rw [if_neg c]; exact r
theorem tail_led {ep : Nat} {es1 : Array (Int × Value)} {t2 : SetTable} {wd : Bool} : (PySem.Froz.tailTx ep es1 t2 wd).2.2.led = t2.led := by
  unfold PySem.Froz.tailTx
  by_cases c : (!wd && t2.tooFull) = true
  · rw [if_pos c]; exact relayAll_led _ _ _
  · rw [if_neg c]
theorem addTx_ris {h : Int} {v : Value} {D : PySem.Froz.SD} (r : Ris D.2.2.place.toList) : Ris (PySem.Froz.addTx h v D).2.2.place.toList := by
  have r1 := layNew_ris D.2.2 D.1 h v r
  unfold PySem.Froz.addTx
  refine tail_ris ?_
  by_cases c : (layNew D.2.2 D.1 h v).2.1.plain = true
  · rw [if_pos c]; exact r1
  · rw [if_neg c]; exact r1
theorem addTx_led {h : Int} {v : Value} {D : PySem.Froz.SD} : (PySem.Froz.addTx h v D).2.2.led = D.2.2.led := by
  have l1 := layNew_led D.2.2 D.1 h v
  unfold PySem.Froz.addTx
  rw [tail_led]
  by_cases c : (layNew D.2.2 D.1 h v).2.1.plain = true
  · rw [if_pos c]; exact l1
  · rw [if_neg c]; exact l1
theorem ins_tx {a : Addr} {ks : List Str} {k : Str} {u : Tok} {Q : Bool → Shared → Prop} (R : TxR P w s.heap a ks) (hb : ks.length + 1 < scanBound)
    (hQ : ∀ h' b, Heap.SameBut a s.heap h' → TxR P w h' a (insT ks k) → Q b { s with heap := h' }) : wpAny (model P w) A (setAddHashed a (.str k u) (hashStr w k)) Q E s := by
  obtain ⟨D, ho, F, nd, hr, hl, hz⟩ := R
  by_cases hk : k ∈ ks
  · obtain ⟨es, ep, t⟩ := D
    have hf : t.fits es.size = true := F.fit
    have hel : ElemsOf (strKind P w) es.toList := F.el
    have hsz : es.size = ks.length := F.sz
    obtain ⟨e0, he0, q0⟩ := (F.mem k).mp hk
    unfold setAddHashed setAddHashedIn
    refine wpAny_holding (wpAny_bind (wpAny_setState_of ho rfl hf ?_))
    dsimp only
    rw [byScan_of (knd := strKind P w) rfl (by omega) hel]
    simp only [↓reduceIte]
    unfold setAddByScan
    refine wpAny_bind (wpAny_bind (wpAny_rule (wpAny_bind (wpAny_setScan_of (knd := strKind P w) (k := k) (PySem.Froz.is_str k u) ho rfl hf hel ?_))))
    cases hfi : List.findIdx? (fun e => (strKind P w).is k e.2) es.toList with
    | none =>
      have c := List.findIdx?_eq_none_iff.mp hfi e0 he0
      rw [q0] at c
      cases c
    | some j =>
      dsimp only
      have z : insT ks k = ks := if_pos hk
      exact wpAny_pure (wpAny_pure (hQ s.heap false (Heap.SameBut.refl a s.heap) (by rw [z]; exact ⟨_, ho, F, nd, hr, hl, hz⟩)))
  · refine PySem.Froz.add_x ho F hk hb ?_
    have z : insT ks k = k :: ks := if_neg hk
    refine hQ _ true (Heap.SameBut.update s.heap a _) (by
      rw [z]
      exact ⟨_, PySem.Froz.get_upd _ ho rfl, PySem.Froz.add_ok u F, List.nodup_cons.mpr ⟨hk, nd⟩, addTx_ris hr, hl.imp id fun y => by rw [addTx_led]; exact y, hb⟩)
def insAll (ks : List Str) : List Str → List Str
  | [] => ks
  | k :: r => insAll (insT ks k) r
theorem insAll_app (ks : List Str) : ∀ (xs ys : List Str), insAll ks (xs ++ ys) = insAll (insAll ks xs) ys
  | [], _ => rfl
  | x :: xs, ys => insAll_app (insT ks x) xs ys
theorem insT_len (ks : List Str) (k : Str) : (insT ks k).length ≤ ks.length + 1 := by
  unfold insT
  split <;> simp
theorem insAll_len : ∀ (xs ks : List Str), (insAll ks xs).length ≤ ks.length + xs.length
  | [], _ => by simp [insAll]
  | x :: xs, ks => by
    have h1 := insAll_len xs (insT ks x)
    have h2 := insT_len ks x
    simp only [insAll, List.length_cons]
    omega
theorem upd_texts {I : Addr} {fp wr : List Addr} {G : Array GenState → Array GenState → Prop} {n : Nat} {Pv : Nat → Value → Prop} {St : Nat → Shared → Prop} {R : Result → Shared → Prop}
    (W : WalksS P w A.in1 I fp wr G n Pv St) (S : Addr) (nf : S ∉ fp) (xs : List Str) (hn : n = xs.length) (hb : xs.length + 1 < scanBound) (hval : ∀ i v, Pv i v → ∃ k t, xs[i]? = some k ∧ v = .str k t) :
    ∀ (m i : Nat) (s : Shared), n - i = m → i ≤ n → St i s → TxR P w s.heap S (insAll [] (xs.take i)) →
      (∀ s', Moved (S :: wr) G s s' → TxR P w s'.heap S (insAll [] xs) → R (.ok (.ret .none)) s') →
      codeAny (model P w) A (.builtin "set.update.loop" ⟨[.ref S, .ref I], []⟩) R s := by
  have nw : S ∉ wr := fun h => nf (W.sub _ h)
  have sb : ∀ b ∈ wr, b ∈ S :: wr := fun b hb => List.mem_cons_of_mem _ hb
  intro m
  induction m with
  | zero =>
    intro i s hm hi hst hS hR
    have ei : i = n := by omega
    subst ei
    refine codeAny_builtin F.entry_set_update_loop ?_
    rw [Around.under_plainId F.plain_set_update_loop _]
    show wpAny _ A.in1 (pyNext (.ref I) >>= _) _ _ s
    refine wpAny_bind (W.done s _ _ hst fun s' mv => ?_)
    show wpAny _ A.in1 (ret Value.none) _ _ s'
    rw [List.take_of_length_le (by omega)] at hS
    exact wpAny_pure (hR s' (mv.mono sb) (hS.at fun o e => mv.heap S o nw e))
  | succ m ih =>
    intro i s hm hi hst hS hR
    have lt : i < n := by omega
    refine codeAny_builtin F.entry_set_update_loop ?_
    rw [Around.under_plainId F.plain_set_update_loop _]
    show wpAny _ A.in1 (pyNext (.ref I) >>= _) _ _ s
    refine wpAny_bind (W.item i s _ _ lt hst fun v s' hP st' mv => ?_)
    obtain ⟨z, t, hz, rfl⟩ := hval i v hP
    have hS' := hS.at (h' := s'.heap) fun o e => mv.heap S o nw e
    have l1 := insAll_len (xs.take i) []
    have l2 : (xs.take i).length ≤ i := List.length_take_le _ _
    have et : insT (insAll [] (xs.take i)) z = insAll [] (xs.take (i + 1)) := by
      rw [List.take_add_one, hz, insAll_app]; rfl
    show wpAny _ A.in1 (holding [Value.str z t] (setAdd S (.str z t)) >>= _) _ _ s'
    refine wpAny_bind (wpAny_holding ?_)
    unfold setAdd
    refine wpAny_holding (wpAny_bind ((strKind P w).pyHash (k := z) (PySem.Froz.is_str z t) ?_))
    refine ins_tx (s := { s' with toks := s'.toks + 1 }) hS' (by simp at l1; omega) fun h' b sm hS2 => ?_
    rw [et] at hS2
    refine wpAny_pure ⟨plainId_quiet F.plain_set_update_loop _, ih (i + 1) _ (by omega) lt (W.frame _ s' _ _ st' (Nat.le_succ _) fun b hb o e => ?_) hS2 fun s'' mv2 hS3 => ?_⟩
    · rw [sm.2 b (fun h : b = S => nf (by rw [← h]; exact hb))]; exact e
    · refine hR s'' (Moved.trans W.gtrans ((mv.mono sb).then_heap (Nat.le_succ _) fun b o hb e => ?_) mv2) hS3
      rw [sm.2 b (fun h : b = S => hb (by rw [h]; exact List.mem_cons_self))]; exact e
theorem TxR.fresh {h : Heap} : TxR P w (h.push { cls := .type "set", dict := none, data := .set #[] 0 (.fresh 0 0 (!w.params.followText "set-order")) }) h.objs.size [] :=
  ⟨(#[], 0, .fresh 0 0 (!w.params.followText "set-order")), Heap.get?_push_size _ rfl, PySem.Froz.TxOk.nil (by rfl), List.nodup_nil, List.Pairwise.nil, by
    show _ ∨ (!w.params.followText "set-order") = true
    cases w.params.followText "set-order"
    · exact .inr rfl
    · exact .inl rfl, by decide⟩
theorem set_of_list {l : Addr} {its : Array Value} (xs : List Str) {Q : Value → Shared → Prop} (hh : A.handled = none) (hl : s.heap.IsList l its) (hit : StrsAre its.toList xs) (hb : xs.length + 1 < scanBound)
    (hQ : ∀ (h' : Heap) (tk : Nat), TxR P w h' s.heap.objs.size (insAll [] xs) → (∀ b o, s.heap.get? b = some o → h'.get? b = some o) → Q (.ref s.heap.objs.size) { s with heap := h', toks := tk }) :
    wpAny (model P w) A (call (.type "set") [.ref l]) Q E s := by
  have isz : its.size = xs.length := by
    have q := PyProof.Rows.StrsAre.len_eq hit
    rw [Array.length_toList] at q; omega
  obtain ⟨c, tl, mro⟩ := F.called_set.mro
  have m1 := F.called_set.made; have m2 := F.called_set.sub
  refine wpAny_call (codeAny_of_tree (?_ : wpAny _ _ (callAny (.type "set") _) _ _ _))
  refine wpAny_pure ⟨Code.quiet_builtin _ (by decide +kernel), codeAny_builtin F.entry_type_call ?_⟩
  rw [Around.under_plain (weight_type_call_type "set" [.ref l] []) rfl]
  have g1 := F.called_set.notType; have g2 := F.called_set.canCreate; have g3 := F.typeCall_set_1 (.ref l)
  repeat (any_goals (first | assumption | wp_step))
  refine codeAny_mono (code_set_led1 (.ref l) (E := E) (Q₁ := fun z s1 => z = .ref s.heap.objs.size ∧ s1 = { s with heap := s.heap.push { cls := .type "set", dict := none, data := .set #[] 0 (.fresh 0 0 (!w.params.followText "set-order")) } }) ⟨rfl, rfl⟩) fun r s1 hr => ?_
  cases r with
  | error e => exact hr
  | ok fl =>
    cases fl with
    | ret z =>
      obtain ⟨rfl, rfl⟩ := hr
      have eS : (s.heap.push { cls := .type "set", dict := none, data := .set #[] 0 (.fresh 0 0 (!w.params.followText "set-order")) }).get? s.heap.objs.size = some { cls := .type "set", dict := none, data := .set #[] 0 (.fresh 0 0 (!w.params.followText "set-order")) } := Heap.get?_push_size _ rfl
      have eT : Shared.TypeIs { s with heap := s.heap.push { cls := .type "set", dict := none, data := .set #[] 0 (.fresh 0 0 (!w.params.followText "set-order")) } } (.ref s.heap.objs.size) "set" := ⟨_, eS, rfl⟩
      have i1 := F.called_set.init.lookup; have i2 := F.called_set.init.bind (.ref s.heap.objs.size)
      repeat (any_goals (first | assumption | wp_step))
      refine codeAny_mono (codeAny_call_builtin (R := wants (fun r s2 => r = .none ∧ ∃ h' tk, s2 = { s with heap := h', toks := tk } ∧ TxR P w h' s.heap.objs.size (insAll [] xs) ∧
          (∀ b o, s.heap.get? b = some o → h'.get? b = some o)) E) F.called_set.init.plain F.entry_set_init (check_set_init_1 eT ?_)) fun r2 s2 hr2 => ?_
      · obtain ⟨ol, hol, hcl, nl, hdl⟩ := hl
        obtain ⟨c1, d1, p1, o1⟩ := ol
        simp only at hcl hdl
        subst hcl hdl
        have hol' : (s.heap.push { cls := .type "set", dict := none, data := .set #[] 0 (.fresh 0 0 (!w.params.followText "set-order")) }).get? l = some { cls := .type "list", dict := d1, data := .seq its nl, slots := o1 } := Heap.get?_push_of_some _ hol
        have f1 := F.sub_list_set; have f2 := F.sub_list_frozenset
        have ne : (Value.type "list" == Value.type "dict") = false := by decide
        have hl1 : (s.heap.push { cls := .type "set", dict := none, data := .set #[] 0 (.fresh 0 0 (!w.params.followText "set-order")) }).IsList l its := ⟨_, hol', rfl, nl, rfl⟩
        unfold Builtin.«set.__init__» noKeywords Builtin.Frozenset.updateFrom
        generalize hPI : pyIter = PI
        wp_walk
        subst hPI
        refine wpAny_pyIter_list hl1 (wpAny_bind (wpAny_runValue ?_))
        have lS : l < s.heap.objs.size := Heap.lt_size hol
        have h3 : A.in1.in1.in1.handled = none := by simp [hh]
        have nI : l ≠ (s.heap.push { cls := .type "set", dict := none, data := .set #[] 0 (.fresh 0 0 (!w.params.followText "set-order")) }).objs.size := by
          rw [Heap.size_push]; exact Nat.ne_of_lt (Nat.lt_succ_of_lt lS)
        have nS : s.heap.objs.size ∉ [(s.heap.push { cls := .type "set", dict := none, data := .set #[] 0 (.fresh 0 0 (!w.params.followText "set-order")) }).objs.size, l] := by
          rw [Heap.size_push]; simp only [List.mem_cons, List.mem_singleton, List.not_mem_nil, or_false, not_or]; exact ⟨Nat.ne_of_lt (Nat.lt_succ_self _), Nat.ne_of_gt lS⟩
        have hv : ∀ (i : Nat) (v : Value), its[i]? = some v → ∃ k t, xs[i]? = some k ∧ v = .str k t := fun i v e => by
          have hi : i < xs.length := by rw [← isz]; exact (Array.getElem?_eq_some_iff.mp e).1
          obtain ⟨t, z⟩ := SS.strs_at hit i v (by rw [Array.getElem?_toList]; exact e)
          refine ⟨xs[i], t, List.getElem?_eq_getElem hi, ?_⟩
          rw [z, List.getD_eq_getElem?_getD, List.getElem?_eq_getElem hi]; rfl
        refine upd_texts ((Walks.list h3 _ l nI its).toS) s.heap.objs.size nS xs isz hb hv (its.size - 0) 0 _ (by omega) (Nat.zero_le _) ⟨⟨_, Heap.get?_push_size _ rfl, rfl, rfl⟩, (hl1.push _)⟩ ?hS0 ?hR
        case hS0 =>
          exact TxR.at TxR.fresh fun o e => Heap.get?_push_of_some _ e
        case hR =>
          intro s' mv hS'
          obtain ⟨h', g2, d', tk', os'⟩ := s'
          have eg : g2 = s.gens := mv.gens
          have ed : d' = s.drawn := mv.drawn
          have eo : os' = s.os := mv.os
          subst eg ed eo
          show wpAny _ _ _ _ _ _
          refine wpAny_pure (?_ : wpAny _ _ (ret Value.none) _ _ _)
          refine wpAny_pure ⟨rfl, h', tk', rfl, hS', fun b o e => ?_⟩
          have b0 : b < s.heap.objs.size := Heap.lt_size e
          have b2 : b ≠ (s.heap.push { cls := .type "set", dict := none, data := .set #[] 0 (.fresh 0 0 (!w.params.followText "set-order")) }).objs.size := by
            rw [Heap.size_push]; exact Nat.ne_of_lt (Nat.lt_succ_of_lt b0)
          exact mv.heap b o (by simp only [List.mem_cons, List.mem_singleton, List.not_mem_nil, or_false, not_or]; exact ⟨Nat.ne_of_lt b0, b2⟩) (Heap.get?_push_of_some _ (Heap.get?_push_of_some _ e))
      · cases r2 with
        | error e => exact hr2
        | ok fl2 =>
          cases fl2 with
          | ret r =>
            obtain ⟨rfl, h', tk, rfl, hS', hk'⟩ := hr2
            repeat (any_goals (first | assumption | wp_step))
            exact hQ _ _ hS' hk'
          | _ => exact hr2.elim
    | _ => exact hr.elim
theorem set_of_tuple {l : Addr} {its : Array Value} (xs : List Str) {Q : Value → Shared → Prop} (hh : A.handled = none) (hl : s.heap.IsTuple l its) (hit : StrsAre its.toList xs) (hb : xs.length + 1 < scanBound)
    (hQ : ∀ (h' : Heap) (tk : Nat), TxR P w h' s.heap.objs.size (insAll [] xs) → (∀ b o, s.heap.get? b = some o → h'.get? b = some o) → Q (.ref s.heap.objs.size) { s with heap := h', toks := tk }) :
    wpAny (model P w) A (call (.type "set") [.ref l]) Q E s := by
  have isz : its.size = xs.length := by
    have q := PyProof.Rows.StrsAre.len_eq hit
    rw [Array.length_toList] at q; omega
  obtain ⟨c, tl, mro⟩ := F.called_set.mro
  have m1 := F.called_set.made; have m2 := F.called_set.sub
  refine wpAny_call (codeAny_of_tree (?_ : wpAny _ _ (callAny (.type "set") _) _ _ _))
  refine wpAny_pure ⟨Code.quiet_builtin _ (by decide +kernel), codeAny_builtin F.entry_type_call ?_⟩
  rw [Around.under_plain (weight_type_call_type "set" [.ref l] []) rfl]
  have g1 := F.called_set.notType; have g2 := F.called_set.canCreate; have g3 := F.typeCall_set_1 (.ref l)
  repeat (any_goals (first | assumption | wp_step))
  refine codeAny_mono (code_set_led1 (.ref l) (E := E) (Q₁ := fun z s1 => z = .ref s.heap.objs.size ∧ s1 = { s with heap := s.heap.push { cls := .type "set", dict := none, data := .set #[] 0 (.fresh 0 0 (!w.params.followText "set-order")) } }) ⟨rfl, rfl⟩) fun r s1 hr => ?_
  cases r with
  | error e => exact hr
  | ok fl =>
    cases fl with
    | ret z =>
      obtain ⟨rfl, rfl⟩ := hr
      have eS : (s.heap.push { cls := .type "set", dict := none, data := .set #[] 0 (.fresh 0 0 (!w.params.followText "set-order")) }).get? s.heap.objs.size = some { cls := .type "set", dict := none, data := .set #[] 0 (.fresh 0 0 (!w.params.followText "set-order")) } := Heap.get?_push_size _ rfl
      have eT : Shared.TypeIs { s with heap := s.heap.push { cls := .type "set", dict := none, data := .set #[] 0 (.fresh 0 0 (!w.params.followText "set-order")) } } (.ref s.heap.objs.size) "set" := ⟨_, eS, rfl⟩
      have i1 := F.called_set.init.lookup; have i2 := F.called_set.init.bind (.ref s.heap.objs.size)
      repeat (any_goals (first | assumption | wp_step))
      refine codeAny_mono (codeAny_call_builtin (R := wants (fun r s2 => r = .none ∧ ∃ h' tk, s2 = { s with heap := h', toks := tk } ∧ TxR P w h' s.heap.objs.size (insAll [] xs) ∧
          (∀ b o, s.heap.get? b = some o → h'.get? b = some o)) E) F.called_set.init.plain F.entry_set_init (check_set_init_1 eT ?_)) fun r2 s2 hr2 => ?_
      · obtain ⟨ol, hol, hcl, nl, hdl⟩ := hl
        obtain ⟨c1, d1, p1, o1⟩ := ol
        simp only at hcl hdl
        subst hcl hdl
        have hol' : (s.heap.push { cls := .type "set", dict := none, data := .set #[] 0 (.fresh 0 0 (!w.params.followText "set-order")) }).get? l = some { cls := .type "tuple", dict := d1, data := .seq its nl, slots := o1 } := Heap.get?_push_of_some _ hol
        have f1 := F.sub_tuple_set; have f2 := F.sub_tuple_frozenset
        have ne : (Value.type "tuple" == Value.type "dict") = false := by decide
        have hl1 : (s.heap.push { cls := .type "set", dict := none, data := .set #[] 0 (.fresh 0 0 (!w.params.followText "set-order")) }).IsTuple l its := ⟨_, hol', rfl, nl, rfl⟩
        unfold Builtin.«set.__init__» noKeywords Builtin.Frozenset.updateFrom
        generalize hPI : pyIter = PI
        wp_walk
        subst hPI
        refine wpAny_pyIter_tuple hl1 (wpAny_bind (wpAny_runValue ?_))
        have lS : l < s.heap.objs.size := Heap.lt_size hol
        have h3 : A.in1.in1.in1.handled = none := by simp [hh]
        have nI : l ≠ (s.heap.push { cls := .type "set", dict := none, data := .set #[] 0 (.fresh 0 0 (!w.params.followText "set-order")) }).objs.size := by
          rw [Heap.size_push]; exact Nat.ne_of_lt (Nat.lt_succ_of_lt lS)
        have nS : s.heap.objs.size ∉ [(s.heap.push { cls := .type "set", dict := none, data := .set #[] 0 (.fresh 0 0 (!w.params.followText "set-order")) }).objs.size, l] := by
          rw [Heap.size_push]; simp only [List.mem_cons, List.mem_singleton, List.not_mem_nil, or_false, not_or]; exact ⟨Nat.ne_of_lt (Nat.lt_succ_self _), Nat.ne_of_gt lS⟩
        have hv : ∀ (i : Nat) (v : Value), its[i]? = some v → ∃ k t, xs[i]? = some k ∧ v = .str k t := fun i v e => by
          have hi : i < xs.length := by rw [← isz]; exact (Array.getElem?_eq_some_iff.mp e).1
          obtain ⟨t, z⟩ := SS.strs_at hit i v (by rw [Array.getElem?_toList]; exact e)
          refine ⟨xs[i], t, List.getElem?_eq_getElem hi, ?_⟩
          rw [z, List.getD_eq_getElem?_getD, List.getElem?_eq_getElem hi]; rfl
        refine upd_texts ((Walks.tuple h3 _ l nI its).toS) s.heap.objs.size nS xs isz hb hv (its.size - 0) 0 _ (by omega) (Nat.zero_le _) ⟨⟨_, Heap.get?_push_size _ rfl, rfl, rfl⟩, (hl1.push _)⟩ ?hS0 ?hR
        case hS0 =>
          exact TxR.at TxR.fresh fun o e => Heap.get?_push_of_some _ e
        case hR =>
          intro s' mv hS'
          obtain ⟨h', g2, d', tk', os'⟩ := s'
          have eg : g2 = s.gens := mv.gens
          have ed : d' = s.drawn := mv.drawn
          have eo : os' = s.os := mv.os
          subst eg ed eo
          show wpAny _ _ _ _ _ _
          refine wpAny_pure (?_ : wpAny _ _ (ret Value.none) _ _ _)
          refine wpAny_pure ⟨rfl, h', tk', rfl, hS', fun b o e => ?_⟩
          have b0 : b < s.heap.objs.size := Heap.lt_size e
          have b2 : b ≠ (s.heap.push { cls := .type "set", dict := none, data := .set #[] 0 (.fresh 0 0 (!w.params.followText "set-order")) }).objs.size := by
            rw [Heap.size_push]; exact Nat.ne_of_lt (Nat.lt_succ_of_lt b0)
          exact mv.heap b o (by simp only [List.mem_cons, List.mem_singleton, List.not_mem_nil, or_false, not_or]; exact ⟨Nat.ne_of_lt b0, b2⟩) (Heap.get?_push_of_some _ (Heap.get?_push_of_some _ e))
      · cases r2 with
        | error e => exact hr2
        | ok fl2 =>
          cases fl2 with
          | ret r =>
            obtain ⟨rfl, h', tk, rfl, hS', hk'⟩ := hr2
            repeat (any_goals (first | assumption | wp_step))
            exact hQ _ _ hS' hk'
          | _ => exact hr2.elim
    | _ => exact hr.elim
/-- such a set, as it stands -/
def TxO (P : Program) (w : World) (a : Addr) (ks : List Str) : HO := .ext fun h => TxR P w h a ks
theorem TxO.new {H : Hp} {h : Heap} {a : Addr} {ks : List Str} (R : TxR P w h a ks) : ObjOk P w H h a (TxO P w a ks) := by
  obtain ⟨D, ho, r⟩ := id R
  exact ⟨R, ⟨_, ho⟩, fun h1 h2 p k => TxR.at p k⟩
theorem TxO.get {X : Cx} {pins : List (Addr × Obj)} {σ : L2.St} {H : Hp} {a : Addr} {ks : List Str} (I : Inv X pins σ H s) (ha : H a = some (TxO X.prog X.w a ks)) : TxR X.prog X.w s.heap a ks := (I.hok a _ ha).1
end
end TH

/-! How clean values and cells stand in the abstract heap. -/
namespace TH
open PySem PySem.Spec PyProof.Rows L2

theorem lim_eq : lim = sizeLine := by rw [sizeLine_eq]; rfl
abbrev Ren := List Addr
def toS (s : List Nat) : Str := ⟨s.toArray⟩
theorem toS_len (s : List Nat) : (toS s).length = s.length := by simp [toS, Str.length]
theorem toS_app (a b : List Nat) : toS a ++ toS b = toS (a ++ b) := by
  show Str.append _ _ = _
  simp [toS, Str.append]
theorem toS_inj {a b : List Nat} (h : toS a = toS b) : a = b := by
  have := congrArg (fun s : Str => s.cps.toList) h
  simpa [toS] using this

/-- a list that stays as it is, with ints: the script -/
def Lk (K : PySem.W.Frag) (H : Hp) (a : Addr) (xs : List V) : Prop :=
  (∃ o, H a = some (.frz o (.lst xs))) ∨
    ∃ (o : Obj) (its : Array Value) (n : Nat), K.lookup a = some o ∧ o.cls = .type "list" ∧ o.dict = none ∧ o.data = .seq its n ∧ its.size ≤ sizeLine ∧ Vals xs its.toList
theorem Lk.sq {K : PySem.W.Frag} {H : Hp} {a : Addr} {xs : List V} (h : Lk K H a xs) : SqL K H a xs := by
  rcases h with ⟨o, h⟩ | h
  · exact .inl (.inr ⟨o, h⟩)
  · exact .inr h
/-- what never changes: a tuple, a frozen list -/
inductive Kp : HO → Prop
  | tup (vs : List V) : Kp (.tup vs)
  | frz (o : Obj) (vs : List V) : Kp (.frz o (.lst vs))
mutual
inductive RV (K : PySem.W.Frag) (r : Ren) (H : Hp) : CV → V → Prop
  | non : RV K r H .non .non
  | bl (b : Bool) : RV K r H (.bl b) (.bl b)
  | int (i : Int) : RV K r H (.int i) (.int i)
  | str (s : List Nat) : RV K r H (.str s) (.str (toS s))
  | tup {a : Addr} {xs : List CV} {vs : List V} : H a = some (.tup vs) → RVs K r H xs vs → RV K r H (.tup xs) (.ref a)
  | ref {n : Nat} {a : Addr} : r[n]? = some a → RV K r H (.ref n) (.ref a)
  | lst {a : Addr} {ns : List Int} : Lk K H a (ns.map V.int) → RV K r H (.lst (ns.map CV.int)) (.ref a)
inductive RVs (K : PySem.W.Frag) (r : Ren) (H : Hp) : List CV → List V → Prop
  | nil : RVs K r H [] []
  | cons {x : CV} {v : V} {xs : List CV} {vs : List V} : RV K r H x v → RVs K r H xs vs → RVs K r H (x :: xs) (v :: vs)
end
section
variable {K : PySem.W.Frag} {r : Ren} {H : Hp}
theorem RVs.length : ∀ {xs : List CV} {vs : List V}, RVs K r H xs vs → xs.length = vs.length
  | _, _, .nil => rfl
  | _, _, .cons _ t => by simp [RVs.length t]
theorem RVs.get : ∀ {xs : List CV} {vs : List V} {i : Nat} {x : CV}, RVs K r H xs vs → xs[i]? = some x → ∃ v, vs[i]? = some v ∧ RV K r H x v
  | _, _, _, _, .nil, e => by simp at e
  | _, _, 0, _, .cons q _, e => by simp at e; subst e; exact ⟨_, rfl, q⟩
  | _, _, i + 1, _, .cons _ t, e => by
    obtain ⟨v, h1, h2⟩ := RVs.get (i := i) t (by simpa using e)
    exact ⟨v, by simpa using h1, h2⟩
theorem RVs.get_none : ∀ {xs : List CV} {vs : List V} {i : Nat}, RVs K r H xs vs → xs[i]? = none → vs.length ≤ i := fun {xs vs i} q e => by
  rw [← q.length]; exact List.getElem?_eq_none_iff.mp e
theorem RVs.get' : ∀ {xs : List CV} {vs : List V} {i : Nat} {v : V}, RVs K r H xs vs → vs[i]? = some v → ∃ x, xs[i]? = some x ∧ RV K r H x v
  | _, _, _, _, .nil, e => by simp at e
  | _, _, 0, _, .cons q _, e => by simp at e; subst e; exact ⟨_, rfl, q⟩
  | _, _, i + 1, _, .cons _ t, e => by
    obtain ⟨v, h1, h2⟩ := RVs.get' (i := i) t (by simpa using e)
    exact ⟨v, by simpa using h1, h2⟩
theorem RVs.append : ∀ {xs ys : List CV} {vs ws : List V}, RVs K r H xs vs → RVs K r H ys ws → RVs K r H (xs ++ ys) (vs ++ ws)
  | _, _, _, _, .nil, q => q
  | _, _, _, _, .cons a t, q => .cons a (RVs.append t q)
theorem RVs.set : ∀ {xs : List CV} {vs : List V} (i : Nat) {x : CV} {v : V}, RVs K r H xs vs → RV K r H x v → RVs K r H (xs.set i x) (vs.set i v)
  | _, _, _, _, _, .nil, _ => .nil
  | _, _, 0, _, _, .cons _ t, q => .cons q t
  | _, _, i + 1, _, _, .cons a t, q => .cons a (RVs.set i t q)
theorem RVs.take : ∀ {xs : List CV} {vs : List V} (n : Nat), RVs K r H xs vs → RVs K r H (xs.take n) (vs.take n)
  | _, _, 0, _ => .nil
  | _, _, _ + 1, .nil => .nil
  | _, _, n + 1, .cons a t => .cons a (RVs.take n t)
theorem RVs.drop : ∀ {xs : List CV} {vs : List V} (n : Nat), RVs K r H xs vs → RVs K r H (xs.drop n) (vs.drop n)
  | _, _, 0, q => q
  | _, _, _ + 1, .nil => .nil
  | _, _, n + 1, .cons _ t => RVs.drop n t
theorem RVs.eraseIdx : ∀ {xs : List CV} {vs : List V} (i : Nat), RVs K r H xs vs → RVs K r H (xs.eraseIdx i) (vs.eraseIdx i)
  | _, _, _, .nil => .nil
  | _, _, 0, .cons _ t => t
  | _, _, i + 1, .cons a t => .cons a (RVs.eraseIdx i t)
theorem RVs.reverse : ∀ {xs : List CV} {vs : List V}, RVs K r H xs vs → RVs K r H xs.reverse vs.reverse
  | _, _, .nil => .nil
  | _, _, .cons a t => by
    rw [List.reverse_cons, List.reverse_cons]
    exact (RVs.reverse t).append (.cons a .nil)
end

/-! ### cells -/
def ofKey : Key → CV
  | .inl i => .int i
  | .inr x => .str x.cps.toList
abbrev RKV (K : PySem.W.Frag) (r : Ren) (H : Hp) : List (CV × CV) → List (Key × V) → Prop := Paired fun p q => p.1 = ofKey q.1 ∧ RV K r H p.2 q.2
abbrev RTV (K : PySem.W.Frag) (r : Ren) (H : Hp) : List (CV × CV) → List (List Key × V) → Prop := Paired fun p q => p.1 = .tup (q.1.map ofKey) ∧ RV K r H p.2 q.2
/-- a dict as it stands -/
def RD (K : PySem.W.Frag) (r : Ren) (H : Hp) (kvs : List (CV × CV)) (u : HO) : Prop :=
  (∃ es, u = .dK es ∧ RKV K r H kvs es) ∨ (∃ es, u = .dT es ∧ RTV K r H kvs es)
/-- a set of texts -/
def RSet (P : Program) (w : World) (xs : List CV) (a : Addr) (u : HO) : Prop :=
  (∃ ks : List Str, u = TxO P w a ks ∧ xs = ks.map fun k => .str k.cps.toList) ∨
    ∃ ns : List Int, u = SetO w a (fun j => decide (j ∈ ns)) ns.length ∧ xs = ns.map CV.int ∧ ns.length ≤ 4000
def RO (P : Program) (w : World) (K : PySem.W.Frag) (r : Ren) (H : Hp) : CO → Addr → Prop
  | .lst xs, a => ∃ vs, H a = some (.lst vs) ∧ RVs K r H xs vs
  | .frz xs, a => ∃ o vs, H a = some (.frz o (.lst vs)) ∧ RVs K r H xs vs
  | .dct kvs, a => ∃ u, H a = some u ∧ RD K r H kvs u
  | .lkd kvs, a => ∃ o u, H a = some (.frz o u) ∧ RD K r H kvs u
  | .set xs, a => ∃ u, H a = some u ∧ RSet P w xs a u
structure RH (P : Program) (w : World) (K : PySem.W.Frag) (r : Ren) (h : CH) (H : Hp) : Prop where
  len : h.length = r.length
  nd : r.Nodup
  ob : ∀ (n : Nat) (o : CO) (a : Addr), h[n]? = some o → r[n]? = some a → RO P w K r H o a
structure Step (r : Ren) (H : Hp) (r' : Ren) (H' : Hp) : Prop where
  pre : ∃ t, r' = r ++ t
  keep : ∀ a o, H a = some o → a ∉ r → H' a = some o
  frz : ∀ a o u, H a = some (.frz o u) → H' a = some (.frz o u)
  new : ∀ a ∈ r', a ∉ r → H a = none
section
variable {P : Program} {w : World} {K : PySem.W.Frag} {r r' r'' : Ren} {H H' H'' : Hp} {h h' : CH}
theorem Step.refl : Step r H r H := ⟨⟨[], by simp⟩, fun _ _ e _ => e, fun _ _ _ e => e, fun a h1 h2 => absurd h1 h2⟩
theorem Step.sub (s : Step r H r' H') {a : Addr} (h : a ∈ r) : a ∈ r' := by
  obtain ⟨t, e⟩ := s.pre
  rw [e]; exact List.mem_append_left _ h
theorem Step.ix (s : Step r H r' H') {n : Nat} {a : Addr} (h : r[n]? = some a) : r'[n]? = some a := by
  obtain ⟨t, e⟩ := s.pre
  have hn : n < r.length := (List.getElem?_eq_some_iff.mp h).1
  rw [e, List.getElem?_append_left hn]; exact h
theorem Step.trans (s : Step r H r' H') (t : Step r' H' r'' H'') : Step r H r'' H'' where
  pre := by
    obtain ⟨a, e⟩ := s.pre
    obtain ⟨b, e2⟩ := t.pre
    exact ⟨a ++ b, by rw [e2, e, List.append_assoc]⟩
  keep := fun a o e n => t.keep a o (s.keep a o e n) fun z => by
    have := s.new a z n
    rw [e] at this; cases this
  frz := fun a o u e => t.frz a o u (s.frz a o u e)
  new := fun a h1 h2 => by
    by_cases z : a ∈ r'
    · exact s.new a z h2
    · have q := t.new a h1 z
      cases e : H a with
      | none => rfl
      | some o => rw [s.keep a o e h2] at q; cases q
theorem RO.notup {o : CO} {a : Addr} (q : RO P w K r H o a) : ∀ xs, ¬ Rd H a (.tup xs) := by
  intro xs z
  cases o with
  | lst ys => obtain ⟨vs, e, _⟩ := q; rcases z with z | ⟨_, z⟩ <;> (rw [e] at z; cases z)
  | frz ys => obtain ⟨_, vs, e, _⟩ := q; rcases z with z | ⟨_, z⟩ <;> (rw [e] at z; cases z)
  | dct ys =>
    obtain ⟨u, e, d⟩ := q
    rcases d with ⟨es, rfl, _⟩ | ⟨es, rfl, _⟩ <;> rcases z with z | ⟨_, z⟩ <;> (rw [e] at z; cases z)
  | lkd ys =>
    obtain ⟨_, u, e, d⟩ := q
    rcases d with ⟨es, rfl, _⟩ | ⟨es, rfl, _⟩ <;> rcases z with z | ⟨_, z⟩ <;> (rw [e] at z; cases z)
  | set ys =>
    obtain ⟨u, e, ⟨ks, rfl, _⟩ | ⟨ns, rfl, _⟩⟩ := q <;> rcases z with z | ⟨_, z⟩ <;> (rw [e] at z; cases z)
theorem RH.notup (q : RH P w K r h H) {a : Addr} (ha : a ∈ r) : ∀ xs, ¬ Rd H a (.tup xs) := by
  obtain ⟨n, hn⟩ := List.getElem?_of_mem ha
  have hl : n < h.length := by rw [q.len]; exact (List.getElem?_eq_some_iff.mp hn).1
  exact (q.ob n h[n] a (List.getElem?_eq_getElem hl) hn).notup
theorem tup_step (q : RH P w K r h H) (s : Step r H r' H') {a : Addr} {vs : List V} (t : H a = some (.tup vs)) : H' a = some (.tup vs) :=
  s.keep a _ t fun z => q.notup z vs (.inl t)
mutual
theorem RV.keep (ht : ∀ a u, Kp u → H a = some u → H' a = some u) (hr : ∀ (n : Nat) (a : Addr), r[n]? = some a → r'[n]? = some a) : ∀ {x : CV} {v : V}, RV K r H x v → RV K r' H' x v
  | _, _, .non => .non
  | _, _, .bl b => .bl b
  | _, _, .int i => .int i
  | _, _, .str t => .str t
  | _, _, .tup t u => .tup (ht _ _ (.tup _) t) (RVs.keep ht hr u)
  | _, _, .ref e => .ref (hr _ _ e)
  | _, _, .lst (.inl ⟨o, e⟩) => .lst (.inl ⟨o, ht _ _ (.frz _ _) e⟩)
  | _, _, .lst (.inr e) => .lst (.inr e)
theorem RVs.keep (ht : ∀ a u, Kp u → H a = some u → H' a = some u) (hr : ∀ (n : Nat) (a : Addr), r[n]? = some a → r'[n]? = some a) : ∀ {xs : List CV} {vs : List V}, RVs K r H xs vs → RVs K r' H' xs vs
  | _, _, .nil => .nil
  | _, _, .cons a t => .cons (RV.keep ht hr a) (RVs.keep ht hr t)
end
theorem RO.keep (ht : ∀ a u, Kp u → H a = some u → H' a = some u) (hr : ∀ (n : Nat) (a : Addr), r[n]? = some a → r'[n]? = some a) {o : CO} {a : Addr} (e : H' a = H a) (d : RO P w K r H o a) : RO P w K r' H' o a := by
  have hd : ∀ {kvs : List (CV × CV)} {u : HO}, RD K r H kvs u → RD K r' H' kvs u := by
    intro kvs u d
    rcases d with ⟨es, e, d⟩ | ⟨es, e, d⟩
    · exact .inl ⟨es, e, Paired.mapP d fun _ _ z => ⟨z.1, z.2.keep ht hr⟩⟩
    · exact .inr ⟨es, e, Paired.mapP d fun _ _ z => ⟨z.1, z.2.keep ht hr⟩⟩
  cases o with
  | lst ys => obtain ⟨vs, z, d⟩ := d; exact ⟨vs, e.trans z, d.keep ht hr⟩
  | frz ys => obtain ⟨o, vs, z, d⟩ := d; exact ⟨o, vs, e.trans z, d.keep ht hr⟩
  | dct ys => obtain ⟨u, z, d⟩ := d; exact ⟨u, e.trans z, hd d⟩
  | lkd ys => obtain ⟨o, u, z, d⟩ := d; exact ⟨o, u, e.trans z, hd d⟩
  | set ys => obtain ⟨u, z, d⟩ := d; exact ⟨u, e.trans z, d⟩
mutual
theorem RV.step (q : RH P w K r h H) (s : Step r H r' H') : ∀ {x : CV} {v : V}, RV K r H x v → RV K r' H' x v
  | _, _, .non => .non
  | _, _, .bl b => .bl b
  | _, _, .int i => .int i
  | _, _, .str t => .str t
  | _, _, .tup t u => .tup (tup_step q s t) (RVs.step q s u)
  | _, _, .ref e => .ref (s.ix e)
  | _, _, .lst (.inl ⟨o, e⟩) => .lst (.inl ⟨o, s.frz _ _ _ e⟩)
  | _, _, .lst (.inr e) => .lst (.inr e)
theorem RVs.step (q : RH P w K r h H) (s : Step r H r' H') : ∀ {xs : List CV} {vs : List V}, RVs K r H xs vs → RVs K r' H' xs vs
  | _, _, .nil => .nil
  | _, _, .cons a t => .cons (RV.step q s a) (RVs.step q s t)
end
theorem RD.step (q : RH P w K r h H) (s : Step r H r' H') {kvs : List (CV × CV)} {u : HO} (d : RD K r H kvs u) : RD K r' H' kvs u := by
  rcases d with ⟨es, e, d⟩ | ⟨es, e, d⟩
  · exact .inl ⟨es, e, Paired.mapP d fun _ _ z => ⟨z.1, z.2.step q s⟩⟩
  · exact .inr ⟨es, e, Paired.mapP d fun _ _ z => ⟨z.1, z.2.step q s⟩⟩
/-- a cell that stands as it stood -/
theorem RO.step (q : RH P w K r h H) (s : Step r H r' H') {o : CO} {a : Addr} (e : H' a = H a) (d : RO P w K r H o a) : RO P w K r' H' o a := by
  cases o with
  | lst ys => obtain ⟨vs, z, d⟩ := d; exact ⟨vs, e.trans z, d.step q s⟩
  | frz ys => obtain ⟨o, vs, z, d⟩ := d; exact ⟨o, vs, e.trans z, d.step q s⟩
  | dct ys => obtain ⟨u, z, d⟩ := d; exact ⟨u, e.trans z, d.step q s⟩
  | lkd ys => obtain ⟨o, u, z, d⟩ := d; exact ⟨o, u, e.trans z, d.step q s⟩
  | set ys => obtain ⟨u, z, d⟩ := d; exact ⟨u, e.trans z, d⟩
theorem RH.at (q : RH P w K r h H) {n : Nat} {a : Addr} {o : CO} (e : h[n]? = some o) (v : RV K r H (.ref n) (.ref a)) : RO P w K r H o a := by
  cases v with
  | ref z => exact q.ob n o a e z
theorem RH.addr (q : RH P w K r h H) {n : Nat} {o : CO} (e : h[n]? = some o) : ∃ a, r[n]? = some a ∧ RO P w K r H o a := by
  have hl : n < r.length := by rw [← q.len]; exact (List.getElem?_eq_some_iff.mp e).1
  exact ⟨r[n], List.getElem?_eq_getElem hl, q.ob n o _ e (List.getElem?_eq_getElem hl)⟩
/-- a thing that is new and no cell: a tuple -/
theorem Step.laid {p : Addr} {o : HO} (hp : H p = none) : Step r H r (upd H p o) :=
  ⟨⟨[], by simp⟩, fun a u e _ => by rw [upd_ne (ne_of_none e hp)]; exact e, fun a u v e => by rw [upd_ne (ne_of_none e hp)]; exact e, fun a h1 h2 => absurd h1 h2⟩
theorem RH.laid (q : RH P w K r h H) {p : Addr} {o : HO} (hp : H p = none) : RH P w K r h (upd H p o) where
  len := q.len
  nd := q.nd
  ob := fun n c a e1 e2 => by
    have d := q.ob n c a e1 e2
    refine d.step q (Step.laid hp) (upd_ne ?_)
    rintro rfl
    cases c with
    | lst _ => obtain ⟨_, z, _⟩ := d; rw [hp] at z; cases z
    | frz _ => obtain ⟨_, _, z, _⟩ := d; rw [hp] at z; cases z
    | dct _ => obtain ⟨_, z, _⟩ := d; rw [hp] at z; cases z
    | lkd _ => obtain ⟨_, _, z, _⟩ := d; rw [hp] at z; cases z
    | set _ => obtain ⟨_, z, _⟩ := d; rw [hp] at z; cases z
theorem RH.fresh (q : RH P w K r h H) {p : Addr} (hp : H p = none) : p ∉ r := fun z => by
  obtain ⟨n, hn⟩ := List.getElem?_of_mem z
  have hl : n < h.length := by rw [q.len]; exact (List.getElem?_eq_some_iff.mp hn).1
  have d := q.ob n h[n] p (List.getElem?_eq_getElem hl) hn
  generalize h[n] = c at d
  cases c with
  | lst _ => obtain ⟨_, z, _⟩ := d; rw [hp] at z; cases z
  | frz _ => obtain ⟨_, _, z, _⟩ := d; rw [hp] at z; cases z
  | dct _ => obtain ⟨_, z, _⟩ := d; rw [hp] at z; cases z
  | lkd _ => obtain ⟨_, _, z, _⟩ := d; rw [hp] at z; cases z
  | set _ => obtain ⟨_, z, _⟩ := d; rw [hp] at z; cases z
/-- a new cell -/
theorem Step.cell {p : Addr} {o : HO} (hp : H p = none) : Step r H (r ++ [p]) (upd H p o) :=
  ⟨⟨[p], rfl⟩, fun a u e _ => by rw [upd_ne (ne_of_none e hp)]; exact e, fun a u v e => by rw [upd_ne (ne_of_none e hp)]; exact e,
    fun a h1 h2 => by rcases List.mem_append.mp h1 with z | z; exact absurd z h2; rw [List.mem_singleton.mp z]; exact hp⟩
theorem RH.cell (q : RH P w K r h H) {p : Addr} {o : HO} {c : CO} (hp : H p = none) (new : RO P w K (r ++ [p]) (upd H p o) c p) : RH P w K (r ++ [p]) (h ++ [c]) (upd H p o) where
  len := by simp [q.len]
  nd := List.nodup_append.mpr ⟨q.nd, by simp, fun a ha b hb e => by rw [List.mem_singleton.mp hb] at e; exact q.fresh hp (e ▸ ha)⟩
  ob := fun n d a e1 e2 => by
    by_cases hn : n < h.length
    · rw [List.getElem?_append_left hn] at e1
      rw [List.getElem?_append_left (by rw [← q.len]; exact hn)] at e2
      refine (q.ob n d a e1 e2).step q (Step.cell hp) (upd_ne ?_)
      rintro rfl
      exact q.fresh hp (List.mem_of_getElem? e2)
    · have hn' : n = h.length := by
        have := (List.getElem?_eq_some_iff.mp e1).1
        simp at this
        omega
      subst hn'
      rw [List.getElem?_append_right (Nat.le_refl _)] at e1
      rw [q.len, List.getElem?_append_right (Nat.le_refl _)] at e2
      simp at e1 e2
      subst e1 e2
      exact new
/-- a cell is written -/
theorem Step.write {n : Nat} {a : Addr} {o : HO} (e : r[n]? = some a) (nf : ∀ x u, H a ≠ some (.frz x u)) : Step r H r (upd H a o) :=
  ⟨⟨[], by simp⟩, fun b u z nb => by rw [upd_ne (show b ≠ a from fun y => nb (by rw [y]; exact List.mem_of_getElem? e))]; exact z, fun b x u z => by rw [upd_ne (show b ≠ a from fun y => nf x u (by rw [← y]; exact z))]; exact z, fun a h1 h2 => absurd h1 h2⟩
theorem RH.write (q : RH P w K r h H) {n : Nat} {a : Addr} {o : HO} {c : CO} (e : r[n]? = some a) (nf : ∀ x u, H a ≠ some (.frz x u)) (new : RO P w K r (upd H a o) c a) : RH P w K r (h.set n c) (upd H a o) where
  len := by simp [q.len]
  nd := q.nd
  ob := fun m d b e1 e2 => by
    by_cases hm : m = n
    · subst hm
      rw [e] at e2; cases e2
      have hl : m < h.length := by rw [q.len]; exact (List.getElem?_eq_some_iff.mp e).1
      rw [List.getElem?_set_self hl] at e1
      cases e1
      exact new
    · rw [List.getElem?_set_ne (Ne.symm hm)] at e1
      refine (q.ob m d b e1 e2).step q (Step.write e nf) (upd_ne ?_)
      rintro rfl
      exact hm (nd_ix q.nd e2 e)
/-- a list that is no cell is changed -/
theorem RH.other (q : RH P w K r h H) {D : Addr} {o : HO} (nt : ∀ u, Kp u → H D ≠ some u) (hD : D ∉ r) : RH P w K r h (upd H D o) where
  len := q.len
  nd := q.nd
  ob := fun n c a e1 e2 => (q.ob n c a e1 e2).keep (fun b u k e => by rw [upd_ne (fun z => nt u k (by rw [← z]; exact e))]; exact e) (fun _ _ e => e) (upd_ne fun z => hD (by rw [← z]; exact List.mem_of_getElem? e2))
/-- a list that was none becomes a cell -/
theorem RH.adopt (q : RH P w K r h H) {D : Addr} {c : CO} (hD : D ∉ r) (new : RO P w K (r ++ [D]) H c D) : RH P w K (r ++ [D]) (h ++ [c]) H where
  len := by simp [q.len]
  nd := List.nodup_append.mpr ⟨q.nd, by simp, fun a ha b hb e => by rw [List.mem_singleton.mp hb] at e; exact hD (e ▸ ha)⟩
  ob := fun n d a e1 e2 => by
    by_cases hn : n < h.length
    · rw [List.getElem?_append_left hn] at e1
      rw [List.getElem?_append_left (by rw [← q.len]; exact hn)] at e2
      refine (q.ob n d a e1 e2).keep (fun _ _ _ e => e) (fun m b e => ?_) rfl
      rw [List.getElem?_append_left (List.getElem?_eq_some_iff.mp e).1]; exact e
    · have hn' : n = h.length := by
        have := (List.getElem?_eq_some_iff.mp e1).1
        simp at this
        omega
      subst hn'
      rw [List.getElem?_append_right (Nat.le_refl _)] at e1
      rw [q.len, List.getElem?_append_right (Nat.le_refl _)] at e2
      simp at e1 e2
      subst e1 e2
      exact new
end
end TH

/-! Data: what == says. -/
namespace TH
open PySem PySem.Spec PyProof.Rows L2

mutual
def pd : CV → PyData
  | .non => .none
  | .bl b => .bool b
  | .int i => .int i
  | .str s => .str (toS s)
  | .tup xs => .tuple (pds xs)
  | .lst xs => .list (pds xs)
  | .ref _ => .none
def pds : List CV → List PyData
  | [] => []
  | x :: xs => pd x :: pds xs
end
theorem pds_map : ∀ xs : List CV, pds xs = xs.map pd
  | [] => rfl
  | x :: xs => by rw [pds, pds_map xs]; rfl
/- no reference within -/
mutual
def nref : CV → Bool
  | .tup xs => nrefs xs
  | .lst xs => nrefs xs
  | .ref _ => false
  | _ => true
def nrefs : List CV → Bool
  | [] => true
  | x :: xs => nref x && nrefs xs
end
mutual
theorem plain_pd : ∀ d : CV, (pd d).plain = true
  | .non => rfl
  | .bl _ => rfl
  | .int _ => rfl
  | .str _ => rfl
  | .tup xs => by simp only [pd, PyData.plain]; exact plain_pds xs
  | .lst xs => by simp only [pd, PyData.plain]; exact plain_pds xs
  | .ref _ => rfl
theorem plain_pds : ∀ ds : List CV, PyData.plainAll (pds ds) = true
  | [] => rfl
  | x :: xs => by simp only [pds, PyData.plainAll, plain_pd x, plain_pds xs, Bool.and_self]
end
theorem toS_beq (a b : List Nat) : (toS a == toS b) = (a == b) := by
  by_cases h : a = b
  · subst h; simp
  · have : toS a ≠ toS b := fun e => h (toS_inj e)
    rw [beq_eq_false_iff_ne.mpr this, beq_eq_false_iff_ne.mpr h]
mutual
theorem ceq_pd : ∀ a b : CV, nref a = true → nref b = true → PyData.eqv (pd a) (pd b) = ceq a b
  | .non, b, _, hb => by cases b <;> first | rfl | (simp [nref] at hb)
  | .bl _, b, _, hb => by cases b <;> first | rfl | (simp [nref] at hb)
  | .int _, b, _, hb => by cases b <;> first | rfl | (simp [nref] at hb)
  | .str x, b, _, hb => by
    cases b with
    | str y => simp only [pd, PyData.eqv, ceq, toS_beq]
    | ref _ => simp [nref] at hb
    | _ => rfl
  | .tup xs, b, ha, hb => by
    cases b with
    | tup ys => simp only [pd, PyData.eqv, ceq]; exact ceqs_pds xs ys (by simpa [nref] using ha) (by simpa [nref] using hb)
    | ref _ => simp [nref] at hb
    | _ => rfl
  | .lst xs, b, ha, hb => by
    cases b with
    | lst ys => simp only [pd, PyData.eqv, ceq]; exact ceqs_pds xs ys (by simpa [nref] using ha) (by simpa [nref] using hb)
    | ref _ => simp [nref] at hb
    | _ => rfl
  | .ref _, _, ha, _ => by simp [nref] at ha
theorem ceqs_pds : ∀ a b : List CV, nrefs a = true → nrefs b = true → PyData.eqvAll (pds a) (pds b) = ceqs a b
  | [], [], _, _ => rfl
  | [], _ :: _, _, _ => rfl
  | _ :: _, [], _, _ => rfl
  | a :: as, b :: bs, ha, hb => by
    simp only [nrefs, Bool.and_eq_true] at ha hb
    simp only [pds, PyData.eqvAll, ceqs, ceq_pd a b ha.1 hb.1, ceqs_pds as bs ha.2 hb.2]
end
section
variable {P : Program} {w : World} {K : PySem.W.Frag} {r : Ren} {H : Hp} {h : CH}
mutual
theorem den_ok (q : RH P w K r h H) : ∀ (n : Nat) (x d : CV) (v : V), den h n x = some d → RV K r H x v → Dp K H v (pd d) ∧ nref d = true ∧ (pd d).depth ≤ n
  | n, .non, d, v, e, u => by cases n <;> simp only [den, Option.some.injEq] at e <;> subst e <;> cases u <;> exact ⟨.non, rfl, Nat.zero_le _⟩
  | n, .bl b, d, v, e, u => by cases n <;> simp only [den, Option.some.injEq] at e <;> subst e <;> cases u <;> exact ⟨.bl b, rfl, Nat.zero_le _⟩
  | n, .int b, d, v, e, u => by cases n <;> simp only [den, Option.some.injEq] at e <;> subst e <;> cases u <;> exact ⟨.int b, rfl, Nat.zero_le _⟩
  | n, .str b, d, v, e, u => by cases n <;> simp only [den, Option.some.injEq] at e <;> subst e <;> cases u <;> exact ⟨.str _, rfl, Nat.zero_le _⟩
  | 0, .tup _, d, v, e, u => by simp [den] at e
  | 0, .ref _, d, v, e, u => by simp [den] at e
  | 0, .lst _, d, v, e, u => by simp [den] at e
  | _ + 1, .lst _, d, v, e, u => by simp [den] at e
  | n + 1, .tup xs, d, v, e, u => by
    simp only [den, Option.map_eq_some_iff] at e
    obtain ⟨ds, e, rfl⟩ := e
    cases u with
    | tup t us =>
      obtain ⟨a, b, c⟩ := dens_ok q n xs ds _ e us
      exact ⟨.tup (SqT.of t) a, b, by simp only [pd, PyData.depth]; omega⟩
  | n + 1, .ref m, d, v, e, u => by
    simp only [den] at e
    split at e
    · rename_i xs hm
      simp only [Option.map_eq_some_iff] at e
      obtain ⟨ds, e, rfl⟩ := e
      cases u with
      | ref z =>
        obtain ⟨vs, e1, us⟩ := q.ob _ _ _ hm z
        obtain ⟨a, b, c⟩ := dens_ok q n xs ds _ e us
        exact ⟨.lst (SqL.of e1) a, b, by simp only [pd, PyData.depth]; omega⟩
    · rename_i xs hm
      simp only [Option.map_eq_some_iff] at e
      obtain ⟨ds, e, rfl⟩ := e
      cases u with
      | ref z =>
        obtain ⟨o, vs, e1, us⟩ := q.ob _ _ _ hm z
        obtain ⟨a, b, c⟩ := dens_ok q n xs ds _ e us
        exact ⟨.lst (.inl (.inr ⟨o, e1⟩)) a, b, by simp only [pd, PyData.depth]; omega⟩
    · cases e
theorem dens_ok (q : RH P w K r h H) : ∀ (n : Nat) (xs ds : List CV) (vs : List V), dens h n xs = some ds → RVs K r H xs vs → DpAll K H vs (pds ds) ∧ nrefs ds = true ∧ PyData.depthAll (pds ds) ≤ n
  | n, [], ds, vs, e, u => by
    have e : some [] = some ds := by cases n <;> simpa only [dens] using e
    cases e; cases u
    exact ⟨.nil, rfl, Nat.zero_le _⟩
  | n, x :: xs, ds, vs, e, u => by
    have e : (den h n x).bind (fun y => (dens h n xs).bind fun ys => some (y :: ys)) = some ds := by cases n <;> simpa only [dens] using e
    simp only [Option.bind_eq_some_iff, Option.some.injEq] at e
    obtain ⟨d, e1, ds', e2, rfl⟩ := e
    cases u with
    | cons u us =>
      obtain ⟨a1, b1, c1⟩ := den_ok q n x d _ e1 u
      obtain ⟨a2, b2, c2⟩ := dens_ok q n xs ds' _ e2 us
      exact ⟨.cons a1 a2, by simp only [nrefs, b1, b2, Bool.and_self], by simp only [pds, PyData.depthAll]; omega⟩
end
end

/-! ### the weakest readings -/
def wE (X : Cx) (e : Expr) : TE := fun σ H Q => ∀ (pins : List (Addr × Obj)) (s : Shared), Inv X pins σ H s → wpAny (model X.prog X.w) X.A (eval e X.env) (EP X pins σ Q) X.xe s
def wT (X : Cx) (e : Expr) : TT := fun σ H Q => ∀ (pins : List (Addr × Obj)) (s : Shared), Inv X pins σ H s → wpAny (model X.prog X.w) X.A (isTrue e X.env (eval e X.env)) (TP X pins σ Q) X.xe s
def wO (X : Cx) (f : Value → Value → Sem Value) : R2 := fun x y H Q => ∀ (pins : List (Addr × Obj)) (s : Shared) (σ : L2.St) (v u : Value), Inv X pins σ H s → RelV x v → RelV y u → wpAny (model X.prog X.w) X.A (f v u) (EP X pins σ Q) X.xe s
def wC (X : Cx) (f : Value) : List V → Hp → VK → Prop := fun xs H Q => ∀ (pins : List (Addr × Obj)) (s : Shared) (σ : L2.St) (us : List Value), Inv X pins σ H s → Vals xs us → wpAny (model X.prog X.w) X.A (call f us) (EP X pins σ Q) X.xe s
def wM (X : Cx) (id : String) : V → List V → Hp → VK → Prop := fun x xs H Q => ∀ (pins : List (Addr × Obj)) (s : Shared) (σ : L2.St) (v : Value) (us : List Value), Inv X pins σ H s → RelV x v → Vals xs us → wpAny (model X.prog X.w) X.A (call (.builtin id) (v :: us)) (EP X pins σ Q) X.xe s
section
variable {X : Cx} {e : Expr}
theorem peW : PE X e (wE X e) := ⟨fun pins s σ H Q I h => h pins s I⟩
theorem ptW : PT X e (wT X e) := ⟨fun pins s σ H Q I h => h pins s I⟩
theorem PE.w {t : TE} (p : PE X e t) {σ : L2.St} {H : Hp} {Q : VK} (h : t σ H Q) : wE X e σ H Q := fun pins s I => p.run pins s σ H Q I h
theorem PT.w {t : TT} (p : PT X e t) {σ : L2.St} {H : Hp} {Q : Bool → Hp → Prop} (h : t σ H Q) : wT X e σ H Q := fun pins s I => p.run pins s σ H Q I h
theorem opW {f : Value → Value → Sem Value} : OpR X f (wO X f) := fun pins s σ H x y v u Q I r1 r2 h => h pins s σ v u I r1 r2
theorem OpR.w {f : Value → Value → Sem Value} {r : R2} (p : OpR X f r) {x y : V} {H : Hp} {Q : VK} (h : r x y H Q) : wO X f x y H Q := fun pins s σ v u I r1 r2 => p pins s σ H x y v u Q I r1 r2 h
theorem callW {f : Value} : CallR X f (wC X f) := fun pins s σ H xs us Q I r h => h pins s σ us I r
theorem CallR.w {f : Value} {r : List V → Hp → VK → Prop} (p : CallR X f r) {xs : List V} {H : Hp} {Q : VK} (h : r xs H Q) : wC X f xs H Q := fun pins s σ us I q => p pins s σ H xs us Q I q h
theorem methW {id : String} : MtR X id (wM X id) := fun pins s σ H x xs v us Q I r1 r2 h => h pins s σ v us I r1 r2
theorem MtR.w {id : String} {r : V → List V → Hp → VK → Prop} (p : MtR X id r) {x : V} {xs : List V} {H : Hp} {Q : VK} (h : r x xs H Q) : wM X id x xs H Q := fun pins s σ v us I r1 r2 => p pins s σ H x xs v us Q I r1 r2 h
/-- == and != of data -/
theorem op_eqP (hu : X.A.units + 64 < cLine) : OpR X (compareOp .Eq) (fun x y H Q => ∃ d e, Dp X.K H x d ∧ Dp X.K H y e ∧ d.plain = true ∧ e.plain = true ∧ d.depth ≤ 60 ∧ Q (.bl (PyData.eqv d e)) H) := by
  intro pins s σ H x y v u Q I rx ry h
  obtain ⟨d, e, hd, he, sd, se, hz, q⟩ := h
  obtain ⟨as, r1⟩ := Dp.reads I d x v hd rx
  obtain ⟨bs, r2⟩ := Dp.reads I e y u he ry
  have : min d.depth e.depth ≤ d.depth := Nat.min_le_left _ _
  exact SeqAt.eq_plain r1 r2 sd se (by omega) ⟨.bl _, H, I, rfl, q⟩
theorem op_neP (hu : X.A.units + 64 < cLine) : OpR X (compareOp .NotEq) (fun x y H Q => ∃ d e, Dp X.K H x d ∧ Dp X.K H y e ∧ d.plain = true ∧ e.plain = true ∧ d.depth ≤ 60 ∧ Q (.bl (!PyData.eqv d e)) H) := by
  intro pins s σ H x y v u Q I rx ry h
  obtain ⟨d, e, hd, he, sd, se, hz, q⟩ := h
  obtain ⟨as, r1⟩ := Dp.reads I d x v hd rx
  obtain ⟨bs, r2⟩ := Dp.reads I e y u he ry
  have : min d.depth e.depth ≤ d.depth := Nat.min_le_left _ _
  exact SeqAt.ne_plain r1 r2 sd se (by omega) ⟨.bl _, H, I, rfl, q⟩
theorem op_inP (hu : X.A.units + 64 < cLine) : OpR X (compareOp .In) (fun x y H Q => ∃ d ds, Dp X.K H x d ∧ (Dp X.K H y (.list ds) ∨ Dp X.K H y (.tuple ds)) ∧ d.plain = true ∧ PyData.plainAll ds = true ∧ d.depth ≤ 60 ∧ Q (.bl (ds.any fun z => PyData.eqv z d)) H) := by
  intro pins s σ H x y v u Q I rx ry h
  obtain ⟨d, ds, hd, he, sd, se, hz, q⟩ := h
  obtain ⟨as, r1⟩ := Dp.reads I d x v hd rx
  have : min (PyData.depthAll ds) d.depth ≤ d.depth := Nat.min_le_right _ _
  rcases he with he | he
  · obtain ⟨bs, r2⟩ := Dp.reads I _ y u he ry
    exact SeqAt.in_list_data r2 r1 se sd (by omega) ⟨.bl _, H, I, rfl, q⟩
  · obtain ⟨bs, r2⟩ := Dp.reads I _ y u he ry
    exact SeqAt.in_tuple_data r2 r1 se sd (by omega) ⟨.bl _, H, I, rfl, q⟩
theorem op_notInP (hu : X.A.units + 64 < cLine) : OpR X (compareOp .NotIn) (fun x y H Q => ∃ d ds, Dp X.K H x d ∧ (Dp X.K H y (.list ds) ∨ Dp X.K H y (.tuple ds)) ∧ d.plain = true ∧ PyData.plainAll ds = true ∧ d.depth ≤ 60 ∧ Q (.bl (!ds.any fun z => PyData.eqv z d)) H) := by
  intro pins s σ H x y v u Q I rx ry h
  obtain ⟨d, ds, hd, he, sd, se, hz, q⟩ := h
  obtain ⟨as, r1⟩ := Dp.reads I d x v hd rx
  have : min (PyData.depthAll ds) d.depth ≤ d.depth := Nat.min_le_right _ _
  rcases he with he | he
  · obtain ⟨bs, r2⟩ := Dp.reads I _ y u he ry
    exact SeqAt.notIn_list_data r2 r1 se sd (by omega) ⟨.bl _, H, I, rfl, q⟩
  · obtain ⟨bs, r2⟩ := Dp.reads I _ y u he ry
    exact SeqAt.notIn_tuple_data r2 r1 se sd (by omega) ⟨.bl _, H, I, rfl, q⟩
end
theorem any_pds (d : CV) (hd : nref d = true) : ∀ zs : List CV, nrefs zs = true → ((pds zs).any fun z => PyData.eqv z (pd d)) = zs.any fun z => ceq z d
  | [], _ => rfl
  | z :: zs, h => by
    simp only [nrefs, Bool.and_eq_true] at h
    simp only [pds, List.any_cons, ceq_pd z d h.1 hd, any_pds d hd zs h.2]
end TH

/-! Operators by values. -/
namespace TH
open PySem PySem.Spec PyProof.Rows L2

def PostE (X : Cx) (r : Ren) (H : Hp) (c : CV) (h' : CH) (Q : VK) : Prop :=
  ∀ v r' H', Step r H r' H' → RH X.prog X.w X.K r' h' H' → RV X.K r' H' c v → Q v H'
section
variable {X : Cx} {r : Ren} {H : Hp} {h h' : CH} {c : CV} {Q : VK}
theorem PostE.same (p : PostE X r H c h Q) (q : RH X.prog X.w X.K r h H) {v : V} (u : RV X.K r H c v) : Q v H := p v r H .refl q u
/-- a new tuple -/
theorem PostE.tup {xs : List CV} (p : PostE X r H (.tup xs) h Q) (q : RH X.prog X.w X.K r h H) {vs : List V} (u : RVs X.K r H xs vs) : ∀ a, H a = none → Q (.ref a) (upd H a (.tup vs)) := fun a ha =>
  p _ r _ (Step.laid ha) (q.laid ha) (.tup upd_same (u.step q (Step.laid ha)))
/-- a new list -/
theorem PostE.lst {xs : List CV} (p : PostE X r H (.ref h.length) (h ++ [.lst xs]) Q) (q : RH X.prog X.w X.K r h H) {vs : List V} (u : RVs X.K r H xs vs) : ∀ a, H a = none → Q (.ref a) (upd H a (.lst vs)) := fun a ha => by
  refine p _ (r ++ [a]) _ (Step.cell ha) (q.cell ha ⟨vs, upd_same, u.step q (Step.cell ha)⟩) (.ref ?_)
  rw [q.len]; simp
theorem newc_eq {o : CO} (e : newc h o = some (c, h')) : c = .ref h.length ∧ h' = h ++ [o] := by
  unfold newc at e
  cases e
  exact ⟨rfl, rfl⟩
theorem b64_of {i : Int} (h : b64 i = true) : -(2 ^ 64) < i ∧ i < 2 ^ 64 := by
  unfold b64 at h
  simpa using h
theorem repS_len (s : List Nat) : ∀ n, (repS s n).length = s.length * n
  | 0 => rfl
  | n + 1 => by rw [repS, List.length_append, repS_len s n, Nat.mul_succ]; omega
theorem foldl_repS (s : Array Nat) : ∀ (n : Nat) (a : Array Nat), ((List.replicate n s).foldl (· ++ ·) a).toList = a.toList ++ repS s.toList n
  | 0, a => by simp [repS]
  | n + 1, a => by
    rw [List.replicate_succ, List.foldl_cons, foldl_repS s n]
    simp [repS]
theorem txt_mul (s : List Nat) (k : Int) : Txt.mul (toS s) k = toS (repS s k.toNat) := by
  unfold Txt.mul
  by_cases h1 : k < 1
  · rw [if_pos h1]
    have : k.toNat = 0 := by omega
    rw [this]; rfl
  · rw [if_neg h1]
    by_cases h2 : (k == 1 || (toS s).length == 0) = true
    · rw [if_pos h2]
      rw [toS_len] at h2
      simp only [Bool.or_eq_true, beq_iff_eq] at h2
      rcases h2 with h2 | h2
      · subst h2; simp [repS]
      · have e : s = [] := List.length_eq_zero_iff.mp h2
        subst e
        have : ∀ n, repS [] n = [] := fun n => by induction n with | zero => rfl | succ n ih => simp [repS, ih]
        rw [this]
    · rw [if_neg h2]
      unfold toS
      congr 1
      apply Array.toList_inj.mp
      rw [foldl_repS]
      simp
theorem op_mulS : OpR X (binaryOp .Mult) (fun x y H Q => ∃ s k, x = .str (toS s) ∧ y = .int k ∧ k < 2 ^ 62 ∧ -(2 ^ 62) < k ∧ s.length * k.toNat ≤ sizeLine ∧ Q (.str (toS (repS s k.toNat))) H) := by
  intro pins st σ H x y v u Q I rx ry q
  obtain ⟨s, k, rfl, rfl, h1, h2, h3, q⟩ := q
  obtain ⟨t, rfl⟩ := rx
  obtain ⟨t', rfl⟩ := ry
  refine SB.mul ⟨?_, fun h4 h5 => ?_, fun h4 h5 => ?_⟩ fun tt kk => ?_
  · have e1 : decide (k < -(2 ^ 63 : Int)) = false := decide_eq_false (by omega)
    have e2 : decide (k ≥ (2 ^ 63 : Int)) = false := decide_eq_false (by omega)
    rw [e1, e2]; rfl
  · rw [toS_len]
    rw [sizeLine_eq] at h3
    have hk : 0 < k := by omega
    intro h6
    have h7 : (2 ^ 63 - 1) / k * k ≤ 2 ^ 63 - 1 := Int.ediv_mul_le _ (by omega)
    have h8 : (2 ^ 63 - 1 : Int) < ((2 ^ 63 - 1) / k + 1) * k := Int.lt_ediv_add_one_mul_self _ hk
    have h9 : ((2 ^ 63 - 1) / k + 1) * k ≤ (s.length : Int) * k := Int.mul_le_mul_of_nonneg_right (by omega) (by omega)
    have h10 : ((s.length * k.toNat : Nat) : Int) = (s.length : Int) * k := by
      rw [Int.natCast_mul, Int.toNat_of_nonneg (by omega)]
    omega
  · rw [toS_len]
    unfold Builtin.Str.tooLong
    simpa using h3
  · rw [txt_mul]
    exact ⟨.str _, H, I.tok _, ⟨_, rfl⟩, q⟩
def opOf : BOp → Operator
  | .add => .Add | .sub => .Sub | .mul => .Mult | .fdiv => .FloorDiv | .mod => .Mod | .pow => .Pow
theorem RVs.rep {xs : List CV} {vs : List V} (u : RVs X.K r H xs vs) : ∀ n : Nat, RVs X.K r H (List.replicate n xs).flatten (List.replicate n vs).flatten
  | 0 => .nil
  | n + 1 => by
    rw [List.replicate_succ, List.replicate_succ, List.flatten_cons, List.flatten_cons]
    exact u.append (RVs.rep u n)
theorem bin_ok (q : RH X.prog X.w X.K r h H) {o : BOp} {a b : CV} {x y : V} (u : RV X.K r H a x) (v : RV X.K r H b y) (e : binV o a b h = some (c, h')) (p : PostE X r H c h' Q) : wO X (binaryOp (opOf o)) x y H Q := by
  unfold binV at e
  split at e
  · cases u; cases v; cases e
    exact OpR.w op_add ⟨_, _, rfl, rfl, p.same q (.int _)⟩
  · cases u; cases v
    split at e <;> cases e
    rename_i hl
    refine OpR.w op_add_str ⟨_, _, rfl, rfl, by rw [toS_len, toS_len, ← lim_eq]; exact hl, ?_⟩
    rw [toS_app]
    exact p.same q (.str _)
  · cases u with | tup t1 u =>
    cases v with | tup t2 v =>
    split at e <;> cases e
    rename_i xs ys hl
    refine OpR.w op_catA ⟨_, _, _, _, rfl, rfl, SqT.of t1, SqT.of t2, by rw [← u.length, ← v.length, ← lim_eq]; exact hl, fun hx => ?_, fun _ hy => ?_, fun _ _ => ?_⟩
    · subst hx
      cases u
      exact p.same q (.tup t2 v)
    · subst hy
      cases v
      exact p.same q (.tup t1 (by simpa using u))
    · exact p.tup q (u.append v)
  · cases u with | ref z1 =>
    cases v with | ref z2 =>
    split at e
    · rename_i e1 e2
      split at e
      · rename_i hl
        obtain ⟨rfl, rfl⟩ := newc_eq e
        obtain ⟨vs, g1, u⟩ := q.ob _ _ _ e1 z1
        obtain ⟨ws, g2, v⟩ := q.ob _ _ _ e2 z2
        exact OpR.w op_cat ⟨_, _, _, _, rfl, rfl, g1, g2, by rw [← u.length, ← v.length, ← lim_eq]; exact hl, p.lst q (u.append v)⟩
      · cases e
    · cases e
  · cases u; cases v; cases e
    exact OpR.w op_sub ⟨_, _, rfl, rfl, p.same q (.int _)⟩
  · cases u; cases v
    split at e <;> cases e
    rename_i hl
    rw [Bool.or_eq_true, Bool.or_eq_true] at hl
    rcases hl with hl | hl
    · exact OpR.w op_mul ⟨_, _, rfl, rfl, hl.imp b64_of b64_of, p.same q (.int _)⟩
    · have h2 := of_decide_eq_true (show decide _ = true from hl)
      exact OpR.w op_mulX ⟨_, _, rfl, rfl, mulx_ok Nat.lt_log2_self Nat.lt_log2_self (by omega), p.same q (.int _)⟩
  · cases u; cases v
    split at e <;> cases e
    rename_i hl
    exact OpR.w op_mulS ⟨_, _, rfl, rfl, hl.1, hl.2.1, by rw [← lim_eq]; exact hl.2.2, p.same q (.str _)⟩
  · cases v
    cases u with | @tup _ ys vs t us =>
    split at e <;> cases e
    rename_i hl
    refine OpR.w op_repT ⟨_, _, _, rfl, rfl, SqT.of t, fun z => hl.2.2.1 ?_, hl.1, hl.2.1, by rw [← us.length]; exact hl.2.2.2, p.tup q (us.rep _)⟩
    have := us.length
    rw [z] at this
    exact List.length_eq_zero_iff.mp this
  · cases v
    cases u with | ref z =>
    split at e
    · rename_i hm
      split at e
      · rename_i hl
        obtain ⟨rfl, rfl⟩ := newc_eq e
        obtain ⟨vs, g, us⟩ := q.ob _ _ _ hm z
        exact OpR.w op_rep ⟨_, _, _, rfl, rfl, g, by omega, by omega, by rw [← us.length, ← lim_eq]; exact hl.2.2, p.lst q (us.rep _)⟩
      · cases e
    · cases e
  · cases u; cases v
    split at e <;> cases e
    rename_i hl
    exact OpR.w op_fdiv ⟨_, _, rfl, rfl, hl, p.same q (.int _)⟩
  · cases u; cases v
    split at e <;> cases e
    rename_i hl
    exact OpR.w op_mod ⟨_, _, rfl, rfl, hl, p.same q (.int _)⟩
  · cases u; cases v
    split at e <;> cases e
    rename_i hl
    exact OpR.w op_pow ⟨_, _, rfl, rfl, hl, p.same q (.int _)⟩
  · cases e

/-! ### comparisons -/
def cmpOf : COp → CmpOp
  | .eq => .Eq | .ne => .NotEq | .lt => .Lt | .le => .LtE | .gt => .Gt | .ge => .GtE | .isin => .In | .notin => .NotIn | .is => .Is | .isnot => .IsNot
theorem eqV_ok (q : RH X.prog X.w X.K r h H) {a b : CV} {x y : V} (u : RV X.K r H a x) (v : RV X.K r H b y) {k : Bool} (e : eqV h a b = some k) :
    ∃ d e', Dp X.K H x d ∧ Dp X.K H y e' ∧ d.plain = true ∧ e'.plain = true ∧ d.depth ≤ 60 ∧ PyData.eqv d e' = k := by
  unfold eqV at e
  simp only [Option.bind_eq_some_iff, Option.some.injEq] at e
  obtain ⟨d, e1, d', e2, e3⟩ := e
  obtain ⟨a1, b1, c1⟩ := den_ok q _ _ _ _ e1 u
  obtain ⟨a2, b2, c2⟩ := den_ok q _ _ _ _ e2 v
  exact ⟨_, _, a1, a2, plain_pd _, plain_pd _, Nat.le_trans c1 (by decide), by rw [ceq_pd _ _ b1 b2]; exact e3⟩
theorem ofKey_inj : ∀ {k j : Key}, ofKey k = ofKey j → k = j
  | .inl _, .inl _, e => by cases e; rfl
  | .inr a, .inr b, e => by
    simp only [ofKey, CV.str.injEq] at e
    have : a = b := by
      cases a; cases b
      simp only [Str.mk.injEq]
      exact Array.toList_inj.mp e
    rw [this]
  | .inl _, .inr _, e => by cases e
  | .inr _, .inl _, e => by cases e
theorem ofKeys_inj : ∀ {k j : List Key}, k.map ofKey = j.map ofKey → k = j
  | [], [], _ => rfl
  | [], _ :: _, e => by simp at e
  | _ :: _, [], e => by simp at e
  | a :: k, b :: j, e => by
    simp only [List.map_cons, List.cons.injEq] at e
    rw [ofKey_inj e.1, ofKeys_inj e.2]
theorem leaf_key {a : CV} {x : V} (u : RV X.K r H a x) (hl : leafK a = true) : ∃ k, a = ofKey k ∧ x = kV k := by
  cases u with
  | int i => exact ⟨.inl i, rfl, rfl⟩
  | str s => exact ⟨.inr (toS s), by simp [ofKey, toS], rfl⟩
  | _ => simp [leafK] at hl
theorem leaf_keys : ∀ {as : List CV} {xs : List V}, RVs X.K r H as xs → as.all leafK = true → ∃ ks : List Key, as = ks.map ofKey ∧ xs = ks.map kV
  | _, _, .nil, _ => ⟨[], rfl, rfl⟩
  | _, _, .cons u t, hl => by
    simp only [List.all_cons, Bool.and_eq_true] at hl
    obtain ⟨k, e1, e2⟩ := leaf_key u hl.1
    obtain ⟨ks, e3, e4⟩ := leaf_keys t hl.2
    exact ⟨k :: ks, by rw [e1, e3]; rfl, by rw [e2, e4]; rfl⟩
/-- look-ups agree -/
theorem dget_K {kvs : List (CV × CV)} {es : List (Key × V)} (d : RKV X.K r H kvs es) (k : Key) : (dget kvs (ofKey k) = none ∧ valV es k = none) ∨ ∃ x v, dget kvs (ofKey k) = some x ∧ valV es k = some v ∧ RV X.K r H x v := by
  induction d with
  | nil => exact .inl ⟨rfl, rfl⟩
  | @cons p e ps es hp t ih =>
    obtain ⟨h1, h2⟩ := hp
    by_cases z : e.1 = k
    · refine .inr ⟨p.2, e.2, ?_, ?_, h2⟩
      · simp [dget, List.find?_cons, h1, z]
      · simp [valV, List.find?_cons, z]
    · have z' : ¬ p.1 = ofKey k := fun y => z (ofKey_inj (h1.symm.trans y))
      have e1 : dget (p :: ps) (ofKey k) = dget ps (ofKey k) := by simp [dget, List.find?_cons, z']
      have e2 : valV (e :: es) k = valV es k := by simp [valV, List.find?_cons, z]
      rw [e1, e2]; exact ih
theorem dget_T {kvs : List (CV × CV)} {es : List (List Key × V)} (d : RTV X.K r H kvs es) (k : List Key) : (dget kvs (.tup (k.map ofKey)) = none ∧ valV es k = none) ∨ ∃ x v, dget kvs (.tup (k.map ofKey)) = some x ∧ valV es k = some v ∧ RV X.K r H x v := by
  induction d with
  | nil => exact .inl ⟨rfl, rfl⟩
  | @cons p e ps es hp t ih =>
    obtain ⟨h1, h2⟩ := hp
    by_cases z : e.1 = k
    · refine .inr ⟨p.2, e.2, ?_, ?_, h2⟩
      · simp [dget, List.find?_cons, h1, z]
      · simp [valV, List.find?_cons, z]
    · have z' : ¬ p.1 = .tup (k.map ofKey) := fun y => z (ofKeys_inj (by have := h1.symm.trans y; simpa using this))
      have e1 : dget (p :: ps) (.tup (k.map ofKey)) = dget ps (.tup (k.map ofKey)) := by simp [dget, List.find?_cons, z']
      have e2 : valV (e :: es) k = valV es k := by simp [valV, List.find?_cons, z]
      rw [e1, e2]; exact ih
end
end TH

/-! Comparisons, dicts by values. -/
namespace TH
open PySem PySem.Spec PyProof.Rows L2
section
variable {X : Cx} {r : Ren} {H : Hp} {h h' : CH} {c : CV} {Q : VK}
theorem upd_self {H : Hp} {a : Addr} {o : HO} (e : H a = some o) : upd H a o = H := by
  funext b; unfold upd; split
  · rename_i z; rw [z, e]
  · rfl
theorem set_self {α : Type} {l : List α} {n : Nat} {x : α} (e : l[n]? = some x) : l.set n x = l := by
  apply List.ext_getElem?
  intro i
  by_cases z : n = i
  · subst z
    have := (List.getElem?_eq_some_iff.mp e).1
    rw [List.getElem?_set_self this, e]
  · rw [List.getElem?_set_ne z]
/-- an empty dict is of both kinds -/
theorem swapTK {pins : List (Addr × Obj)} {σ : L2.St} {s : Shared} {a : Addr} (I : Inv X pins σ H s) (e : H a = some (.dK [])) : Inv X pins σ (upd H a (.dT [])) s := by
  obtain ⟨z, y, vs, kv, o, es, ep, g1, g2, g3, g4, g5, g6⟩ := (show ObjOk X.prog X.w H s.heap a (.dK []) from I.hok a _ e)
  cases kv
  have e0 : es.toList = [] := by
    generalize es.toList = l at g5
    cases g5
    rfl
  exact I.write (h' := s.heap) (t' := s.toks) (x := a) (e := a) (by rw [e]; trivial) (.inl rfl) (fun _ _ _ q => q) ⟨o, g1⟩ ⟨z, y, [], .nil, o, es, ep, g1, g2, g3, by rw [e0]; rfl, by simp⟩
theorem swapKT {pins : List (Addr × Obj)} {σ : L2.St} {s : Shared} {a : Addr} (I : Inv X pins σ H s) (e : H a = some (.dT [])) : Inv X pins σ (upd H a (.dK [])) s := by
  obtain ⟨z, y, vs, kv, o, es, ep, g1, g2, g3, g4, g5⟩ := (show ObjOk X.prog X.w H s.heap a (.dT []) from I.hok a _ e)
  cases kv
  have e0 : es.toList = [] := g4
  have e1 : es = #[] := Array.toList_inj.mp e0
  subst e1
  exact I.write (h' := s.heap) (t' := s.toks) (x := a) (e := a) (by rw [e]; trivial) (.inl rfl) (fun _ _ _ q => q) ⟨o, g1⟩ ⟨z, y, [], .nil, o, #[], ep, g1, g2, g3, (fun x hx => by simp at hx), .nil, by simp⟩
theorem tup_not_leaf {x : CV} (e : tupK x = true) : leafK x = false := by
  cases x <;> first | rfl | (simp [tupK] at e)
theorem ofKey_leaf (k : Key) : leafK (ofKey k) = true := by cases k <;> rfl
theorem kok_cases {kvs : List (CV × CV)} {k : CV} (h : kok kvs k = true) : (leafK k = true ∧ ∀ p ∈ kvs, leafK p.1 = true) ∨ (tupK k = true ∧ ∀ p ∈ kvs, tupK p.1 = true) := by
  unfold kok keysOk at h
  simp only [List.all_cons, Bool.or_eq_true, Bool.and_eq_true, List.all_eq_true, List.mem_map] at h
  rcases h with ⟨a, b⟩ | ⟨a, b⟩
  · exact .inl ⟨a, fun p hp => b _ ⟨p, hp, rfl⟩⟩
  · exact .inr ⟨a, fun p hp => b _ ⟨p, hp, rfl⟩⟩
theorem dct_use (q : RH X.prog X.w X.K r h H) {n : Nat} {a : Addr} {kvs : List (CV × CV)} {k : CV} (hn : h[n]? = some (.dct kvs)) (ha : r[n]? = some a) (hk : kok kvs k = true) :
    ∃ H2, (∀ (pins : List (Addr × Obj)) (σ : L2.St) (s : Shared), Inv X pins σ H s → Inv X pins σ H2 s) ∧ Step r H r H2 ∧ RH X.prog X.w X.K r h H2 ∧
      ((leafK k = true ∧ ∃ es, H2 a = some (.dK es) ∧ RKV X.K r H2 kvs es) ∨ (tupK k = true ∧ ∃ es, H2 a = some (.dT es) ∧ RTV X.K r H2 kvs es)) := by
  obtain ⟨u, e, d⟩ := q.ob n _ a hn ha
  have nf : ∀ (o : Obj) (v : HO), H a ≠ some (.frz o v) := fun o v z => by
    rw [e] at z
    rcases d with ⟨es, rfl, _⟩ | ⟨es, rfl, _⟩ <;> cases z
  rcases d with ⟨es, rfl, d⟩ | ⟨es, rfl, d⟩
  · rcases kok_cases hk with ⟨lk, _⟩ | ⟨tk, ta⟩
    · exact ⟨H, fun _ _ _ I => I, .refl, q, .inl ⟨lk, es, e, d⟩⟩
    · cases d with
      | nil =>
        refine ⟨upd H a (.dT []), fun pins σ s I => swapTK I e, Step.write ha nf, ?_, .inr ⟨tk, [], upd_same, .nil⟩⟩
        have := q.write (c := .dct []) ha nf (o := .dT []) ⟨_, upd_same, .inr ⟨[], rfl, .nil⟩⟩
        rwa [set_self hn] at this
      | cons hp t =>
        have := ta _ List.mem_cons_self
        rw [hp.1] at this
        have := tup_not_leaf this
        rw [ofKey_leaf] at this; cases this
  · rcases kok_cases hk with ⟨lk, la⟩ | ⟨tk, _⟩
    · cases d with
      | nil =>
        refine ⟨upd H a (.dK []), fun pins σ s I => swapKT I e, Step.write ha nf, ?_, .inl ⟨lk, [], upd_same, .nil⟩⟩
        have := q.write (c := .dct []) ha nf (o := .dK []) ⟨_, upd_same, .inl ⟨[], rfl, .nil⟩⟩
        rwa [set_self hn] at this
      | cons hp t =>
        have := la _ List.mem_cons_self
        rw [hp.1] at this
        simp [leafK] at this
    · exact ⟨H, fun _ _ _ I => I, .refl, q, .inr ⟨tk, es, e, d⟩⟩
/-- what is found -/
def OV (X : Cx) (r : Ren) (H : Hp) (x : Option CV) (v : Option V) : Prop := (x = none ∧ v = none) ∨ ∃ y u, x = some y ∧ v = some u ∧ RV X.K r H y u
theorem dget_at (q : RH X.prog X.w X.K r h H) {a : Addr} {kvs : List (CV × CV)} {k : CV} {y : V} (u : RV X.K r H k y)
    (d : (leafK k = true ∧ ∃ es, Rd H a (.dK es) ∧ RKV X.K r H kvs es) ∨ (tupK k = true ∧ ∃ es, Rd H a (.dT es) ∧ RTV X.K r H kvs es)) : ∃ ov, DGet H a y ov ∧ OV X r H (dget kvs k) ov := by
  rcases d with ⟨lk, es, e, d⟩ | ⟨tk, es, e, d⟩
  · obtain ⟨k', rfl, rfl⟩ := leaf_key u lk
    exact ⟨valV es k', .inl ⟨es, k', e, rfl, rfl⟩, dget_K d k'⟩
  · cases u with
    | @tup b xs vs e2 us =>
      obtain ⟨ks, rfl, rfl⟩ := leaf_keys us (by simpa [tupK] using tk)
      exact ⟨valV es ks, .inr ⟨es, ks, b, e, rfl, e2, rfl⟩, dget_T d ks⟩
    | _ => simp [tupK] at tk
theorem lkd_use (q : RH X.prog X.w X.K r h H) {n : Nat} {a : Addr} {kvs : List (CV × CV)} {k : CV} (hn : h[n]? = some (.lkd kvs)) (ha : r[n]? = some a) (hk : kok kvs k = true) (ne : kvs ≠ []) :
    (leafK k = true ∧ ∃ es, Rd H a (.dK es) ∧ RKV X.K r H kvs es) ∨ (tupK k = true ∧ ∃ es, Rd H a (.dT es) ∧ RTV X.K r H kvs es) := by
  obtain ⟨o, u, e, d⟩ := q.ob n _ a hn ha
  rcases d with ⟨es, rfl, d⟩ | ⟨es, rfl, d⟩
  · rcases kok_cases hk with ⟨lk, _⟩ | ⟨tk, ta⟩
    · exact .inl ⟨lk, es, .inr ⟨o, e⟩, d⟩
    · cases d with
      | nil => exact absurd rfl ne
      | cons hp t =>
        have := ta _ List.mem_cons_self
        rw [hp.1] at this
        have := tup_not_leaf this
        rw [ofKey_leaf] at this; cases this
  · rcases kok_cases hk with ⟨lk, la⟩ | ⟨tk, _⟩
    · cases d with
      | nil => exact absurd rfl ne
      | cons hp t =>
        have := la _ List.mem_cons_self
        rw [hp.1] at this
        simp [leafK] at this
    · exact .inr ⟨tk, es, .inr ⟨o, e⟩, d⟩
/-- a dict that is read: in a heap in which it is of the key's kind -/
theorem dict_read (q : RH X.prog X.w X.K r h H) {n : Nat} {a : Addr} {kvs : List (CV × CV)} {k : CV} {y : V} (hn : h[n]? = some (.dct kvs) ∨ (h[n]? = some (.lkd kvs) ∧ kvs ≠ [])) (ha : r[n]? = some a) (hk : kok kvs k = true) (u : RV X.K r H k y) :
    ∃ H2 ov, (∀ (pins : List (Addr × Obj)) (σ : L2.St) (s : Shared), Inv X pins σ H s → Inv X pins σ H2 s) ∧ Step r H r H2 ∧ RH X.prog X.w X.K r h H2 ∧ DGet H2 a y ov ∧ OV X r H2 (dget kvs k) ov := by
  rcases hn with hn | ⟨hn, ne⟩
  · obtain ⟨H2, i2, st, q2, d⟩ := dct_use q hn ha hk
    obtain ⟨ov, g, o⟩ := dget_at q2 (u.step q st) (a := a) (kvs := kvs) (d.imp (fun ⟨z, es, e, d⟩ => ⟨z, es, .inl e, d⟩) fun ⟨z, es, e, d⟩ => ⟨z, es, .inl e, d⟩)
    exact ⟨H2, ov, i2, st, q2, g, o⟩
  · obtain ⟨ov, g, o⟩ := dget_at q u (lkd_use q hn ha hk ne)
    exact ⟨H, ov, fun _ _ _ I => I, .refl, q, g, o⟩
theorem OV.isSome {x : Option CV} {v : Option V} (o : OV X r H x v) : v.isSome = x.isSome := by
  rcases o with ⟨rfl, rfl⟩ | ⟨y, u, rfl, rfl, _⟩ <;> rfl

/-! ### in -/
theorem dec_any {c : Nat} {t : List Nat} {a : Decidable (c ∈ (toS t).cps.toList)} {b : Decidable (c ∈ t)} : @decide (c ∈ (toS t).cps.toList) a = @decide (c ∈ t) b := by
  have : ∀ {p q : Prop} (a : Decidable p) (b : Decidable q), p = q → @decide p a = @decide q b := by
    intro p q a b e
    subst e
    rw [Subsingleton.elim a b]
  exact this _ _ (by simp [toS])
theorem in_ok (hu : X.A.units + 64 < cLine) (q : RH X.prog X.w X.K r h H) {neg : Bool} {a b : CV} {x y : V} (u : RV X.K r H a x) (v : RV X.K r H b y) {k : Bool} (e : inV h a b = some k)
    (p : PostE X r H (.bl (if neg then !k else k)) h Q) : wO X (compareOp (if neg then .NotIn else .In)) x y H Q := by
  have seq : ∀ {d : CV} {zs : List CV}, den h dep a = some d → nrefs zs = true → (Dp X.K H y (.list (pds zs)) ∨ Dp X.K H y (.tuple (pds zs))) → (zs.any fun z => ceq z d) = k → wO X (compareOp (if neg then .NotIn else .In)) x y H Q := by
    intro d zs e1 e2 e3 e4
    obtain ⟨a1, b1, c1⟩ := den_ok q _ _ _ _ e1 u
    have e5 : ((pds zs).any fun z => PyData.eqv z (pd d)) = k := (any_pds d b1 zs e2).trans e4
    cases neg with
    | false => exact OpR.w (op_inP hu) ⟨_, _, a1, e3, plain_pd _, plain_pds _, Nat.le_trans c1 (by decide), by rw [e5]; exact p.same q (.bl _)⟩
    | true => exact OpR.w (op_notInP hu) ⟨_, _, a1, e3, plain_pd _, plain_pds _, Nat.le_trans c1 (by decide), by rw [e5]; exact p.same q (.bl _)⟩
  have dct : ∀ {n : Nat} {kvs : List (CV × CV)}, b = .ref n → (h[n]? = some (.dct kvs) ∨ (h[n]? = some (.lkd kvs) ∧ kvs ≠ [])) → kok kvs a = true → (dget kvs a).isSome = k → wO X (compareOp (if neg then .NotIn else .In)) x y H Q := by
    intro n kvs e1 e2 e3 e4
    subst e1
    cases v with | ref z =>
    obtain ⟨H2, ov, i2, st, q2, g, o⟩ := dict_read q e2 z e3 u
    intro pins s σ vv uu I r1 r2
    cases r2
    have e5 := o.isSome.trans e4
    have pq : Q (.bl (if neg then !k else k)) H2 := p _ r H2 st q2 (.bl _)
    cases neg with
    | false => exact d_in (by omega) (i2 _ _ _ I) g r1 fun s3 I3 => ⟨.bl _, H2, I3, rfl, by rw [e5]; exact pq⟩
    | true => exact d_notIn (by omega) (i2 _ _ _ I) g r1 fun s3 I3 => ⟨.bl _, H2, I3, rfl, by rw [e5]; exact pq⟩
  unfold inV at e
  split at e
  · split at e
    · cases u; cases v; cases e
      cases neg with
      | false => exact OpR.w op_in_sign ⟨_, _, rfl, rfl, by rw [dec_any]; exact p.same q (.bl _)⟩
      | true => exact OpR.w op_notIn_sign ⟨_, _, rfl, rfl, by rw [dec_any]; exact p.same q (.bl _)⟩
    · cases e
  · simp only [Option.bind_eq_some_iff, Option.some.injEq] at e
    obtain ⟨d, e1, zs, e2, e3⟩ := e
    cases v with | tup t us =>
    obtain ⟨a2, b2, c2⟩ := dens_ok q _ _ _ _ e2 us
    exact seq e1 b2 (.inr (.tup (SqT.of t) a2)) e3
  · split at e
    · rename_i n ys hm
      simp only [Option.bind_eq_some_iff, Option.some.injEq] at e
      obtain ⟨d, e1, zs, e2, e3⟩ := e
      cases v with | ref z =>
      obtain ⟨vs, g, us⟩ := q.ob _ _ _ hm z
      obtain ⟨a2, b2, c2⟩ := dens_ok q _ _ _ _ e2 us
      exact seq e1 b2 (.inl (.lst (SqL.of g) a2)) e3
    · rename_i n ys hm
      simp only [Option.bind_eq_some_iff, Option.some.injEq] at e
      obtain ⟨d, e1, zs, e2, e3⟩ := e
      cases v with | ref z =>
      obtain ⟨o, vs, g, us⟩ := q.ob _ _ _ hm z
      obtain ⟨a2, b2, c2⟩ := dens_ok q _ _ _ _ e2 us
      exact seq e1 b2 (.inl (.lst (.inl (.inr ⟨o, g⟩)) a2)) e3
    · rename_i n kvs hm
      split at e
      · rename_i hk
        cases e
        exact dct rfl (.inl hm) hk rfl
      · cases e
    · rename_i n kvs hm
      split at e
      · rename_i hk
        rw [Bool.and_eq_true] at hk
        cases e
        exact dct rfl (.inr ⟨hm, fun z => by rw [z] at hk; simp at hk⟩) hk.1 rfl
      · cases e
    · cases e
  · cases e
theorem cmp_ok (hu : X.A.units + 64 < cLine) (q : RH X.prog X.w X.K r h H) {o : COp} {a b : CV} {x y : V} (u : RV X.K r H a x) (v : RV X.K r H b y) {k : Bool} (e : cmpV o a b h = some k) (p : PostE X r H (.bl k) h Q) : wO X (compareOp (cmpOf o)) x y H Q := by
  unfold cmpV at e
  split at e
  · obtain ⟨d, d', a1, a2, b1, b2, c1, e1⟩ := eqV_ok q u v e
    exact OpR.w (op_eqP hu) ⟨_, _, a1, a2, b1, b2, c1, by rw [e1]; exact p.same q (.bl _)⟩
  · simp only [Option.map_eq_some_iff] at e
    obtain ⟨k', e, rfl⟩ := e
    obtain ⟨d, d', a1, a2, b1, b2, c1, e1⟩ := eqV_ok q u v e
    exact OpR.w (op_neP hu) ⟨_, _, a1, a2, b1, b2, c1, by rw [e1]; exact p.same q (.bl _)⟩
  · cases u; cases v; cases e
    exact OpR.w op_lt ⟨_, _, rfl, rfl, p.same q (.bl _)⟩
  · cases u; cases v; cases e
    exact OpR.w op_le ⟨_, _, rfl, rfl, p.same q (.bl _)⟩
  · cases u; cases v; cases e
    exact OpR.w op_gt ⟨_, _, rfl, rfl, p.same q (.bl _)⟩
  · cases u; cases v; cases e
    exact OpR.w op_ge ⟨_, _, rfl, rfl, p.same q (.bl _)⟩
  · exact in_ok (neg := false) hu q u v e p
  · simp only [Option.map_eq_some_iff] at e
    obtain ⟨k', e, rfl⟩ := e
    exact in_ok (neg := true) hu q u v e p
  · cases v; cases e
    refine OpR.w op_isN ⟨rfl, ?_⟩
    have : decide (x = V.non) = decide (a = CV.non) := by cases u <;> simp
    rw [this]; exact p.same q (.bl _)
  · cases v; cases e
    refine OpR.w op_notN ⟨rfl, ?_⟩
    have : (!decide (x = V.non)) = decide (a ≠ CV.non) := by cases u <;> simp
    rw [this]; exact p.same q (.bl _)
  · cases u; cases v; cases e
    refine OpR.w op_isBl ⟨_, _, rfl, rfl, ?_⟩
    rw [← Bool.beq_eq_decide_eq]; exact p.same q (.bl _)
  · cases u; cases v; cases e
    refine OpR.w op_notBl ⟨_, _, rfl, rfl, ?_⟩
    rw [← Bool.beq_eq_decide_eq]; exact p.same q (.bl _)
  · cases e
end
end TH

/-! Subscripts, slices, stores by values. -/
namespace TH
open PySem PySem.Spec PyProof.Rows L2
section
variable {X : Cx} {r : Ren} {H : Hp} {h h' : CH} {c : CV} {Q : VK}
def wI (X : Cx) : R2 := fun x y H Q => ∀ (value slice : Expr) (pins : List (Addr × Obj)) (s : Shared) (σ : L2.St) (v u : Value), Inv X pins σ H s → RelV x v → RelV y u →
  subscripted slice false v u = operate [v, u] (getItem v u) → wpAny (model X.prog X.w) X.A (subscriptTail value slice v u) (EP X pins σ Q) X.xe s
theorem ixW : IxR X (wI X) := fun value slice pins s σ H x y v u Q I r1 r2 h e => h value slice pins s σ v u I r1 r2 e
theorem IxR.w {R : R2} (p : IxR X R) {x y : V} {H : Hp} {Q : VK} (h : R x y H Q) : wI X x y H Q := fun value slice pins s σ v u I r1 r2 e => p value slice pins s σ H x y v u Q I r1 r2 h e
theorem ix_dict (hu : X.A.units + 1 < cLine) : IxR X (fun x y H Q => ∃ a v, x = .ref a ∧ DGet H a y (some v) ∧ Q v H) := by
  intro value slice pins s σ H x y v u Q I rx ry q hs
  obtain ⟨a, vv, rfl, g, q⟩ := q
  cases rx
  exact tail_any (dict_typeIs I g) PySem.F.slot_dict_getitem.lookup (d_getItem hu I g ry fun w' s3 I3 rw' => ⟨vv, H, I3, rw', q⟩) hs
theorem ixN_eq (n : Nat) (i : Int) : TH.ixN n i = L2.ixN n i := rfl
theorem atI_get {xs : List CV} {vs : List V} (u : RVs X.K r H xs vs) {i : Int} {x : CV} (e : TH.atI xs i = some x) : ∃ v, L2.atI vs i = some v ∧ RV X.K r H x v := by
  unfold TH.atI at e
  rw [Option.bind_eq_some_iff] at e
  obtain ⟨j, e1, e2⟩ := e
  obtain ⟨v, e3, rv⟩ := u.get e2
  refine ⟨v, ?_, rv⟩
  unfold L2.atI
  rw [← u.length, ← ixN_eq, e1]
  exact e3
theorem rvs_ints : ∀ ns : List Int, RVs X.K r H (ns.map CV.int) (ns.map V.int)
  | [] => .nil
  | n :: ns => .cons (.int n) (rvs_ints ns)
theorem ix_ok (hu : X.A.units + 64 < cLine) (q : RH X.prog X.w X.K r h H) {a i : CV} {x y : V} (u : RV X.K r H a x) (v : RV X.K r H i y) (e : ixV a i h = some c) (p : PostE X r H c h Q) : wI X x y H Q := by
  have dct : ∀ {n : Nat} {kvs : List (CV × CV)}, a = .ref n → (h[n]? = some (.dct kvs) ∨ (h[n]? = some (.lkd kvs) ∧ kvs ≠ [])) → kok kvs i = true → dget kvs i = some c → wI X x y H Q := by
    intro n kvs e1 e2 e3 e4
    subst e1
    cases u with | ref z =>
    obtain ⟨H2, ov, i2, st, q2, g, o⟩ := dict_read q e2 z e3 v
    rw [e4] at o
    rcases o with ⟨o, _⟩ | ⟨yy, uu, o1, rfl, rv⟩
    · cases o
    cases o1
    intro value slice pins s σ vv uu2 I r1 r2 hs
    exact thn (ix_dict (by omega) value slice pins s σ H2 _ _ vv uu2 Q (i2 _ _ _ I) r1 r2 ⟨_, uu, rfl, g, p _ r H2 st q2 rv⟩ hs) fun _ _ z => z
  unfold ixV at e
  split at e
  · split at e
    · cases v
      cases u with | tup t us =>
      obtain ⟨vv, e1, rv⟩ := atI_get us e
      exact IxR.w ix_tup ⟨_, _, _, _, rfl, rfl, SqT.of t, e1, p.same q rv⟩
    · cases v
      cases u with | lst g =>
      obtain ⟨vv, e1, rv⟩ := atI_get (rvs_ints _) e
      exact IxR.w ix_list ⟨_, _, _, _, rfl, rfl, g.sq, e1, p.same q rv⟩
    · cases v
      cases u
      split at e
      · rename_i hl
        rw [Option.map_eq_some_iff] at e
        obtain ⟨cc, e1, rfl⟩ := e
        refine IxR.w ix_str ⟨_, _, cc, rfl, rfl, by rw [toS_len, ← lim_eq]; exact hl, ?_, p.same q (.str _)⟩
        simpa [toS, TH.atI, L2.atI, ixN_eq] using e1
      · cases e
    · split at e
      · rename_i xs hm
        cases v
        cases u with | ref z =>
        obtain ⟨vs, g, us⟩ := q.ob _ _ _ hm z
        obtain ⟨vv, e1, rv⟩ := atI_get us e
        exact IxR.w ix_list ⟨_, _, _, _, rfl, rfl, SqL.of g, e1, p.same q rv⟩
      · rename_i xs hm
        cases v
        cases u with | ref z =>
        obtain ⟨o, vs, g, us⟩ := q.ob _ _ _ hm z
        obtain ⟨vv, e1, rv⟩ := atI_get us e
        exact IxR.w ix_list ⟨_, _, _, _, rfl, rfl, .inl (.inr ⟨o, g⟩), e1, p.same q rv⟩
      · rename_i kvs hm
        split at e
        · rename_i hk
          exact dct rfl (.inl hm) hk e
        · cases e
      · rename_i kvs hm
        split at e
        · rename_i hk
          rw [Bool.and_eq_true] at hk
          exact dct rfl (.inr ⟨hm, fun z => by rw [z] at hk; simp at hk⟩) hk.1 e
        · cases e
      · cases e
    · cases e
  · split at e
    · split at e
      · rename_i kvs hm
        split at e
        · rename_i hk
          exact dct rfl (.inl hm) hk e
        · cases e
      · rename_i kvs hm
        split at e
        · rename_i hk
          rw [Bool.and_eq_true] at hk
          exact dct rfl (.inr ⟨hm, fun z => by rw [z] at hk; simp at hk⟩) hk.1 e
        · cases e
      · cases e
    · cases e

/-! ### slices -/
def wS (X : Cx) : V → Option Int → Option Int → Hp → VK → Prop := fun x lo hi H Q => ∀ (pins : List (Addr × Obj)) (s : Shared) (σ : L2.St) (v vl vu : Value) (sl : Addr), Inv X pins σ H s → RelV x v → s.heap.IsSliceOf sl vl vu .none → IsPart vl lo → IsPart vu hi →
    ∃ T id, typeLookup (.type T) "__getitem__" = pure (some (.builtin id)) ∧ s.TypeIs v T ∧ wpAny (model X.prog X.w) X.A (getItem v (.ref sl)) (EP X pins σ Q) X.xe s
theorem slW : SlR X (wS X) := fun pins s σ H x v vl vu lo hi sl Q I r1 hs p1 p2 h => h pins s σ v vl vu sl I r1 hs p1 p2
theorem SlR.w {R : V → Option Int → Option Int → Hp → VK → Prop} (p : SlR X R) {x : V} {lo hi : Option Int} {H : Hp} {Q : VK} (h : R x lo hi H Q) : wS X x lo hi H Q := fun pins s σ v vl vu sl I r1 hs p1 p2 => p pins s σ H x v vl vu lo hi sl Q I r1 hs p1 p2 h
theorem sIx_eq (n d : Nat) (o : Option Int) : TH.sIx n d o = HT.sIx n d o := by
  cases o with
  | none => rfl
  | some i =>
    show (if 0 ≤ i then min i.toNat n else (i + n).toNat) = (if i < 0 then (i + (n : Int)).toNat else min i.toNat n)
    by_cases z : i < 0
    · rw [if_pos z, if_neg (by omega)]
    · rw [if_neg z, if_pos (by omega)]
theorem cut_vs {xs : List CV} {vs : List V} (u : RVs X.K r H xs vs) (lo hi : Option Int) : RVs X.K r H (cut xs lo hi) (cutV vs lo hi) := by
  unfold cut cutV
  rw [← u.length, sIx_eq, sIx_eq]
  exact (u.drop _).take _
theorem rdl_at (q : RH X.prog X.w X.K r h H) {n : Nat} {a : Addr} {xs : List CV} (e : rdl h n = some xs) (z : r[n]? = some a) : ∃ vs, SqL X.K H a vs ∧ RVs X.K r H xs vs ∧ ((∃ o, H a = some (.frz o (.lst vs))) ∨ H a = some (.lst vs)) := by
  unfold rdl at e
  split at e
  · rename_i hm
    cases e
    obtain ⟨vs, g, us⟩ := q.ob _ _ _ hm z
    exact ⟨vs, SqL.of g, us, .inr g⟩
  · rename_i hm
    cases e
    obtain ⟨o, vs, g, us⟩ := q.ob _ _ _ hm z
    exact ⟨vs, .inl (.inr ⟨o, g⟩), us, .inl ⟨o, g⟩⟩
  · cases e
theorem sl_ok (q : RH X.prog X.w X.K r h H) {a : CV} {x : V} {lo hi : Option Int} (u : RV X.K r H a x) (e : slV a lo hi h = some (c, h')) (p : PostE X r H c h' Q) : wS X x lo hi H Q := by
  unfold slV at e
  split at e
  · cases e
    cases u with | @tup _ _ vs t us =>
    refine SlR.w sl_tupA ⟨_, _, rfl, SqT.of t, fun hw => ?_, fun _ => p.tup q (cut_vs us lo hi)⟩
    refine p.same q (.tup t ?_)
    have := cut_vs us lo hi
    have e2 : cutV vs lo hi = vs := by
      unfold cutV
      rw [hw.1, hw.2, List.drop_zero, Nat.sub_zero, List.take_length]
    rwa [e2] at this
  · obtain ⟨rfl, rfl⟩ := newc_eq e
    cases u with | lst g =>
    exact SlR.w sl_list ⟨_, _, rfl, g.sq, p.lst q (cut_vs (rvs_ints _) lo hi)⟩
  · split at e
    · rename_i hl
      cases e
      cases u
      refine SlR.w sl_str ⟨_, rfl, by rw [toS_len, ← lim_eq]; exact hl, ?_⟩
      have e2 : ∀ s : List Nat, cutS (toS s) lo hi = toS (cut s lo hi) := fun s => by
        unfold cutS cut
        rw [toS_len, sIx_eq, sIx_eq]
        simp [toS]
      rw [e2]
      exact p.same q (.str _)
    · cases e
  · split at e
    · rename_i xs hm
      obtain ⟨rfl, rfl⟩ := newc_eq e
      cases u with | ref z =>
      obtain ⟨vs, g, us, _⟩ := rdl_at q hm z
      exact SlR.w sl_list ⟨_, _, rfl, g, p.lst q (cut_vs us lo hi)⟩
    · cases e
  · cases e

/-! ### stores -/
def wSet (X : Cx) : V → V → V → Hp → (Hp → Prop) → Prop := fun o i v H Q => ∀ (pins : List (Addr × Obj)) (s : Shared) (σ : L2.St) (ov iv u : Value), Inv X pins σ H s → RelV o ov → RelV i iv → RelV v u →
    wpAny (model X.prog X.w) X.A (setItem ov iv u) (fun _ s' => ∃ H', Inv X pins σ H' s' ∧ Q H') X.xe s
theorem setW : PSet X (wSet X) := fun pins s σ H o i v ov iv u Q I r1 r2 r3 h => h pins s σ ov iv u I r1 r2 r3
theorem PSet.w {R : TSet} (p : PSet X R) {o i v : V} {H : Hp} {Q : Hp → Prop} (h : R o i v H Q) : wSet X o i v H Q := fun pins s σ ov iv u I r1 r2 r3 => p pins s σ H o i v ov iv u Q I r1 r2 r3 h
theorem put_K {kvs : List (CV × CV)} {es : List (Key × V)} (d : RKV X.K r H kvs es) (k : Key) {x : CV} {v : V} (u : RV X.K r H x v) : RKV X.K r H (dput kvs (ofKey k) x) (putK es k v) := by
  have e1 : (kvs.any fun kv => decide (kv.1 = ofKey k)) = es.any fun kv => decide (kv.1 = k) := by
    induction d with
    | nil => rfl
    | @cons p e ps es hp t ih =>
      simp only [List.any_cons, ih]
      congr 1
      by_cases z : e.1 = k
      · simp [hp.1, z]
      · have : ¬ p.1 = ofKey k := fun y => z (ofKey_inj (hp.1.symm.trans y))
        simp [z, this]
  have e2 : RKV X.K r H (kvs.map fun kv => if kv.1 = ofKey k then (kv.1, x) else kv) (es.map fun kv => if kv.1 = k then (kv.1, v) else kv) := by
    clear e1
    induction d with
    | nil => exact .nil
    | @cons p e ps es hp t ih =>
      rw [List.map_cons, List.map_cons]
      refine .cons ?_ ih
      by_cases z : e.1 = k
      · have y : p.1 = ofKey k := by rw [hp.1, z]
        rw [if_pos z, if_pos y]; exact ⟨hp.1, u⟩
      · have y : ¬ p.1 = ofKey k := fun y => z (ofKey_inj (hp.1.symm.trans y))
        rw [if_neg z, if_neg y]; exact hp
  unfold dput putK
  rw [e1]
  split
  · exact e2
  · exact Paired.snoc d ⟨rfl, u⟩
theorem put_T {kvs : List (CV × CV)} {es : List (List Key × V)} (d : RTV X.K r H kvs es) (k : List Key) {x : CV} {v : V} (u : RV X.K r H x v) : RTV X.K r H (dput kvs (.tup (k.map ofKey)) x) (putK es k v) := by
  have inj : ∀ {p : CV} {j : List Key}, p = .tup (j.map ofKey) → p = .tup (k.map ofKey) → j = k := fun {p j} a b => ofKeys_inj (by have := a.symm.trans b; simpa using this)
  have e1 : (kvs.any fun kv => decide (kv.1 = .tup (k.map ofKey))) = es.any fun kv => decide (kv.1 = k) := by
    induction d with
    | nil => rfl
    | @cons p e ps es hp t ih =>
      simp only [List.any_cons, ih]
      congr 1
      by_cases z : e.1 = k
      · simp [hp.1, z]
      · have : ¬ p.1 = .tup (k.map ofKey) := fun y => z (inj hp.1 y)
        simp [z, this]
  have e2 : RTV X.K r H (kvs.map fun kv => if kv.1 = .tup (k.map ofKey) then (kv.1, x) else kv) (es.map fun kv => if kv.1 = k then (kv.1, v) else kv) := by
    clear e1
    induction d with
    | nil => exact .nil
    | @cons p e ps es hp t ih =>
      rw [List.map_cons, List.map_cons]
      refine .cons ?_ ih
      by_cases z : e.1 = k
      · have y : p.1 = .tup (k.map ofKey) := by rw [hp.1, z]
        rw [if_pos z, if_pos y]; exact ⟨hp.1, u⟩
      · have y : ¬ p.1 = .tup (k.map ofKey) := fun y => z (inj hp.1 y)
        rw [if_neg z, if_neg y]; exact hp
  unfold dput putK
  rw [e1]
  split
  · exact e2
  · exact Paired.snoc d ⟨rfl, u⟩
/-- d[k] = v -/
theorem dict_put (q : RH X.prog X.w X.K r h H) {n : Nat} {a : Addr} {kvs : List (CV × CV)} {k x : CV} {y v : V} (hn : h[n]? = some (.dct kvs)) (ha : r[n]? = some a) (hk : kok kvs k = true) (hl : kvs.length < lim) (u : RV X.K r H k y) (w : RV X.K r H x v) :
    ∃ H2 H3 ov, (∀ (pins : List (Addr × Obj)) (σ : L2.St) (s : Shared), Inv X pins σ H s → Inv X pins σ H2 s) ∧ DPut H2 a y v H3 ∧ Step r H r H3 ∧ RH X.prog X.w X.K r (h.set n (.dct (dput kvs k x))) H3 ∧
      DGet H2 a y ov ∧ OV X r H2 (dget kvs k) ov ∧ Step r H r H2 ∧ RH X.prog X.w X.K r h H2 := by
  obtain ⟨H2, i2, st, q2, d⟩ := dct_use q hn ha hk
  have u2 := u.step q st
  have w2 := w.step q st
  obtain ⟨ov, g, oo⟩ := dget_at q2 u2 (a := a) (kvs := kvs) (d.imp (fun ⟨z, es, e, d⟩ => ⟨z, es, .inl e, d⟩) fun ⟨z, es, e, d⟩ => ⟨z, es, .inl e, d⟩)
  rcases d with ⟨lk, es, e, d⟩ | ⟨tk, es, e, d⟩
  · obtain ⟨k', rfl, rfl⟩ := leaf_key u2 lk
    have nf : ∀ (o : Obj) (v : HO), H2 a ≠ some (.frz o v) := fun o v z => by rw [e] at z; cases z
    have st2 : Step r H2 r (upd H2 a (.dK (putK es k' v))) := Step.write ha nf
    refine ⟨H2, _, ov, i2, .inl ⟨es, k', e, rfl, by rw [← Paired.length d, ← lim_eq]; exact hl, rfl⟩, st.trans st2, q2.write ha nf ⟨_, upd_same, .inl ⟨_, rfl, ?_⟩⟩, g, oo, st, q2⟩
    exact Paired.mapP (put_K d k' w2) fun _ _ z => ⟨z.1, z.2.step q2 st2⟩
  · cases u2 with
    | @tup b xs vs e2 us =>
      obtain ⟨ks, rfl, rfl⟩ := leaf_keys us (by simpa [tupK] using tk)
      have nf : ∀ (o : Obj) (v : HO), H2 a ≠ some (.frz o v) := fun o v z => by rw [e] at z; cases z
      have st2 : Step r H2 r (upd H2 a (.dT (putK es ks v))) := Step.write ha nf
      refine ⟨H2, _, ov, i2, .inr ⟨es, ks, b, e, rfl, e2, by rw [← Paired.length d, ← lim_eq]; exact hl, rfl⟩, st.trans st2, q2.write ha nf ⟨_, upd_same, .inr ⟨_, rfl, ?_⟩⟩, g, oo, st, q2⟩
      exact Paired.mapP (put_T d ks w2) fun _ _ z => ⟨z.1, z.2.step q2 st2⟩
    | _ => simp [tupK] at tk
theorem set_ok (hu : X.A.units + 64 < cLine) (q : RH X.prog X.w X.K r h H) {a i x : CV} {o y v : V} (u : RV X.K r H a o) (u2 : RV X.K r H i y) (u3 : RV X.K r H x v) (e : setV a i x h = some h') {Q : Hp → Prop}
    (p : ∀ H', Step r H r H' → RH X.prog X.w X.K r h' H' → Q H') : wSet X o y v H Q := by
  unfold setV at e
  split at e
  · cases u with | ref z =>
    split at e
    · rename_i xs hm
      split at e
      · cases u2
        rw [Option.map_eq_some_iff] at e
        obtain ⟨j, e1, rfl⟩ := e
        obtain ⟨vs, g, us⟩ := q.ob _ _ _ hm z
        have nf : ∀ (o : Obj) (v : HO), H _ ≠ some (.frz o v) := fun o v y => by rw [g] at y; cases y
        refine PSet.w set_list ⟨_, vs, _, j, rfl, rfl, g, by rw [← us.length]; exact e1, p _ (Step.write z nf) (q.write z nf ⟨_, upd_same, ?_⟩)⟩
        exact (us.step q (Step.write z nf)).set j (u3.step q (Step.write z nf))
      · cases e
    · rename_i kvs hm
      split at e
      · rename_i hk
        rw [Bool.and_eq_true, decide_eq_true_eq] at hk
        cases e
        obtain ⟨H2, H3, _, i2, g, st, q3, _⟩ := dict_put q hm z hk.1 hk.2 u2 u3
        intro pins s σ ov iv uu I r1 r2 r3
        cases r1
        exact d_setItem (by omega) (i2 _ _ _ I) g r2 r3 fun s4 I4 => ⟨H3, I4, p H3 st q3⟩
      · cases e
    · cases e
  · cases e
end
end TH

/-! Built-ins by values. -/
namespace TH
open PySem PySem.Spec PyProof.Rows L2
section
variable {X : Cx} {r : Ren} {H : Hp} {h h' : CH} {c : CV} {Q : VK}
theorem bools_vs : ∀ {xs : List CV} {vs : List V} {bs : List Bool}, RVs X.K r H xs vs → bools? xs = some bs → vs = bs.map V.bl
  | [], _, _, .nil, e => by cases e; rfl
  | x :: xs, _, bs, .cons u t, e => by
    cases x <;> simp only [bools?, Option.map_eq_some_iff, reduceCtorEq] at e
    obtain ⟨bs', e, rfl⟩ := e
    cases u
    rw [bools_vs t e]; rfl
theorem ints_vs : ∀ {xs : List CV} {vs : List V} {bs : List Int}, RVs X.K r H xs vs → ints? xs = some bs → vs = bs.map V.int
  | [], _, _, .nil, e => by cases e; rfl
  | x :: xs, _, bs, .cons u t, e => by
    cases x <;> simp only [ints?, Option.map_eq_some_iff, reduceCtorEq] at e
    obtain ⟨bs', e, rfl⟩ := e
    cases u
    rw [ints_vs t e]; rfl
theorem strs_vs : ∀ {xs : List CV} {vs : List V} {bs : List (List Nat)}, RVs X.K r H xs vs → strs? xs = some bs → vs = (bs.map toS).map V.str
  | [], _, _, .nil, e => by cases e; rfl
  | x :: xs, _, bs, .cons u t, e => by
    cases x <;> simp only [strs?, Option.map_eq_some_iff, reduceCtorEq] at e
    obtain ⟨bs', e, rfl⟩ := e
    cases u
    rw [strs_vs t e]; rfl
theorem RVs.one {x : CV} {vs : List V} (u : RVs X.K r H [x] vs) : ∃ v, vs = [v] ∧ RV X.K r H x v := by
  cases u with | cons u t => cases t; exact ⟨_, rfl, u⟩
theorem RVs.two {x y : CV} {vs : List V} (u : RVs X.K r H [x, y] vs) : ∃ v w, vs = [v, w] ∧ RV X.K r H x v ∧ RV X.K r H y w := by
  cases u with | cons u t => obtain ⟨w, rfl, u2⟩ := t.one; exact ⟨_, _, rfl, u, u2⟩
/-- a list or a tuple -/
theorem items_at (q : RH X.prog X.w X.K r h H) {a : CV} {v : V} {xs : List CV} (u : RV X.K r H a v) (e : items h a = some xs) : ∃ p vs, v = .ref p ∧ RVs X.K r H xs vs ∧ ((SqL X.K H p vs ∧ ∃ n, a = .ref n) ∨ (SqT X.K H p vs ∧ a = .tup xs)) := by
  unfold items at e
  split at e
  · cases e
    cases u with | tup t us => exact ⟨_, _, rfl, us, .inr ⟨SqT.of t, rfl⟩⟩
  · cases u with | ref z =>
    obtain ⟨vs, g, us, _⟩ := rdl_at q e z
    exact ⟨_, vs, rfl, us, .inl ⟨g, _, rfl⟩⟩
  · cases e

/-! ### sorted -/
def Rpd (K : PySem.W.Frag) (r : Ren) (H : Hp) (v : Value) (x : CV) : Prop := ∃ u, RelV u v ∧ RV K r H x u
theorem each_of : ∀ {xs : List CV} {vs : List V} {us : List Value}, RVs X.K r H xs vs → Vals vs us → PySem.W.EachIs (Rpd X.K r H) us xs
  | _, _, _, .nil, .nil => .nil
  | _, _, _, .cons a t, .cons b u => .cons ⟨_, b, a⟩ (each_of t u)
theorem of_each : ∀ {xs : List CV} {us : List Value}, PySem.W.EachIs (Rpd X.K r H) us xs → ∃ vs, RVs X.K r H xs vs ∧ Vals vs us
  | _, _, .nil => ⟨[], .nil, .nil⟩
  | _, _, .cons ⟨v, a, b⟩ t => by
    obtain ⟨vs, c, d⟩ := of_each t
    exact ⟨v :: vs, .cons b c, .cons a d⟩
mutual
theorem clike_pd : ∀ a b : CV, nref a = true → nref b = true → PySem.W.alike (pd a) (pd b) = clike a b
  | .non, b, _, hb => by cases b <;> first | rfl | (simp [nref] at hb)
  | .bl _, b, _, hb => by cases b <;> first | rfl | (simp [nref] at hb)
  | .int _, b, _, hb => by cases b <;> first | rfl | (simp [nref] at hb)
  | .str x, b, _, hb => by cases b <;> first | rfl | (simp [nref] at hb)
  | .tup xs, b, ha, hb => by
    cases b with
    | tup ys => simp only [pd, PySem.W.alike, clike]; exact clikes_pds xs ys (by simpa [nref] using ha) (by simpa [nref] using hb)
    | ref _ => simp [nref] at hb
    | _ => rfl
  | .lst xs, b, ha, hb => by
    cases b with
    | lst ys => simp only [pd, PySem.W.alike, clike]; exact clikes_pds xs ys (by simpa [nref] using ha) (by simpa [nref] using hb)
    | ref _ => simp [nref] at hb
    | _ => rfl
  | .ref _, _, ha, _ => by simp [nref] at ha
theorem clikes_pds : ∀ a b : List CV, nrefs a = true → nrefs b = true → PySem.W.alikeAll (pds a) (pds b) = clikes a b
  | [], [], _, _ => by simp [pds, PySem.W.alikeAll, clikes]
  | [], _ :: _, _, _ => by simp [pds, PySem.W.alikeAll, clikes]
  | _ :: _, [], _, _ => by simp [pds, PySem.W.alikeAll, clikes]
  | a :: as, b :: bs, ha, hb => by
    simp only [nrefs, Bool.and_eq_true] at ha hb
    simp only [pds, PySem.W.alikeAll, clikes, clike_pd a b ha.1 hb.1, clikes_pds as bs ha.2 hb.2]
end
theorem decide_any {p q : Prop} {a : Decidable p} {b : Decidable q} (e : p = q) : @decide p a = @decide q b := by
  subst e
  rw [Subsingleton.elim a b]
theorem slt_eq : ∀ x y : List Nat, decide (x < y) = slt x y
  | [], [] => by simp [slt]
  | [], _ :: _ => by simp [slt]
  | _ :: _, [] => by simp [slt]
  | a :: x, b :: y => by
    have ih := slt_eq x y
    simp only [slt]
    by_cases e : a = b
    · subst e
      rw [if_pos rfl, ← ih]
      simp
    · rw [if_neg e]
      simp [List.cons_lt_cons_iff, e]
mutual
theorem clt_pd : ∀ a b : CV, nref a = true → nref b = true → clike a b = true → PySem.W.dataLt (pd a) (pd b) = clt a b
  | .non, b, _, _, hl => by
    cases b with
    | non => rfl
    | _ => simp [clike] at hl
  | .bl x, b, _, _, hl => by
    cases b with
    | bl y =>
      show PySem.W.dataLt (.bool x) (.bool y) = (!x && y)
      rw [PySem.W.dataLt_bool]
      cases x <;> cases y <;> rfl
    | _ => simp [clike] at hl
  | .int x, b, _, _, hl => by
    cases b with
    | int y => exact PySem.W.dataLt_int x y
    | _ => simp [clike] at hl
  | .str x, b, _, _, hl => by
    cases b with
    | str y =>
      show PySem.W.dataLt (.str (toS x)) (.str (toS y)) = slt x y
      rw [PySem.W.dataLt_str, ← slt_eq]
      exact decide_any (by simp [toS])
    | _ => simp [clike] at hl
  | .tup xs, b, ha, hb, hl => by
    cases b with
    | tup ys =>
      show PySem.W.dataLt (.tuple (pds xs)) (.tuple (pds ys)) = clts xs ys
      rw [PySem.W.dataLt_tuple]
      exact clts_pds xs ys (by simpa [nref] using ha) (by simpa [nref] using hb) (by simpa [clike] using hl)
    | _ => simp [clike] at hl
  | .lst xs, b, ha, hb, hl => by
    cases b with
    | lst ys =>
      show PySem.W.dataLt (.list (pds xs)) (.list (pds ys)) = clts xs ys
      rw [PySem.W.dataLt_list]
      exact clts_pds xs ys (by simpa [nref] using ha) (by simpa [nref] using hb) (by simpa [clike] using hl)
    | _ => simp [clike] at hl
  | .ref _, _, ha, _, _ => by simp [nref] at ha
theorem clts_pds : ∀ a b : List CV, nrefs a = true → nrefs b = true → clikes a b = true → PyProof.Rows.lexLt itemOrd (PySem.W.keyToksAll (pds a)) (PySem.W.keyToksAll (pds b)) = clts a b
  | [], [], _, _, _ => lex_irrefl _
  | [], b :: bs, _, _, _ => by
    show PySem.W.rowLt [] (pd b :: pds bs) = true
    unfold PySem.W.rowLt
    simp only [PySem.W.keyToksAll]
    rw [PySem.W.lex_atom (by simp)]
    rfl
  | a :: as, [], _, _, _ => by
    show PySem.W.rowLt (pd a :: pds as) [] = false
    unfold PySem.W.rowLt
    simp only [PySem.W.keyToksAll]
    rw [PySem.W.lex_atom (by simp)]
    rfl
  | a :: as, b :: bs, ha, hb, hl => by
    simp only [nrefs, Bool.and_eq_true] at ha hb
    simp only [clikes, Bool.and_eq_true] at hl
    have h1 : PySem.W.alike (pd a) (pd b) = true := (clike_pd a b ha.1 hb.1).trans hl.1
    show PyProof.Rows.lexLt itemOrd (PySem.W.keyToksAll (pd a :: pds as)) (PySem.W.keyToksAll (pd b :: pds bs)) = if ceq a b = true then clts as bs else clt a b
    rw [PySem.W.dataLt_cons h1, ceq_pd a b ha.1 hb.1, clts_pds as bs ha.2 hb.2 hl.2, clt_pd a b ha.1 hb.1 hl.1]
end
end
end TH

/-! sorted of anything that is walked; sets of texts. -/
namespace TH
open PySem PySem.Spec PyProof.Rows L2
theorem nref_all : ∀ {xs : List CV}, nrefs xs = true → ∀ x ∈ xs, nref x = true
  | [], _, _, hx => nomatch hx
  | a :: xs, e, x, hx => by
    simp only [nrefs, Bool.and_eq_true] at e
    rcases List.mem_cons.mp hx with z | z
    · rw [z]; exact e.1
    · exact nref_all e.2 x z
theorem depth_mem : ∀ {xs : List CV} {x : CV}, x ∈ xs → (pd x).depth ≤ PyData.depthAll (pds xs)
  | [], _, hx => nomatch hx
  | a :: xs, x, hx => by
    simp only [pds, PyData.depthAll]
    rcases List.mem_cons.mp hx with z | z
    · rw [z]; exact Nat.le_max_left _ _
    · exact Nat.le_trans (depth_mem z) (Nat.le_max_right _ _)
theorem sortable_of {xs : List CV} (hn : nrefs xs = true) (e : sortable xs = true) : PySem.W.AllAlike (xs.map pd) ∧ PySem.W.Sortable (xs.map pd) ∧ (∀ a ∈ xs, ∀ b ∈ xs, clike a b = true) := by
  unfold sortable at e
  simp only [Bool.and_eq_true, Bool.or_eq_true, List.all_eq_true] at e
  obtain ⟨e1, e2⟩ := e
  refine ⟨fun d hd d' hd' => ?_, ?_, e1⟩
  · obtain ⟨a, ha, rfl⟩ := List.mem_map.mp hd
    obtain ⟨b, hb, rfl⟩ := List.mem_map.mp hd'
    rw [clike_pd a b (nref_all hn a ha) (nref_all hn b hb)]
    exact e1 a ha b hb
  · rcases e2 with e2 | e2
    · refine .inl fun d hd => ?_
      obtain ⟨a, ha, rfl⟩ := List.mem_map.mp hd
      have := e2 a ha
      cases a with
      | tup ys =>
        cases ys with
        | nil => simp at this
        | cons y ys => exact ⟨pd y, pds ys, rfl⟩
      | _ => simp at this
    · refine .inr fun d hd => ?_
      obtain ⟨a, ha, rfl⟩ := List.mem_map.mp hd
      have := e2 a ha
      have hr := nref_all hn a ha
      cases a <;> first | (simp at this; done) | (simp [nref] at hr; done) | (simp [pd])
section
variable {X : Cx} {r : Ren} {H : Hp}
/-- a call of sorted, from what the walk gathers -/
theorem srt_collB {pins : List (Addr × Obj)} {σ : L2.St} {s : Shared} {x : Value} {Q : VK} (Bs : List CV → Prop) (hu : X.A.units + 70 < cLine) (I : Inv X pins σ H s) (hB : ∀ bs, Bs bs → nrefs bs = true ∧ PyData.depthAll (pds bs) ≤ dep ∧ sortable bs = true ∧ bs.length ≤ sizeLine)
    (coll : ∀ R : List Value → Shared → Prop, (∀ s' vs bs, Bs bs → (∀ b o, s.heap.get? b = some o → s'.heap.get? b = some o) → s'.gens = s.gens → s'.os = s.os → PySem.W.EachIs (Rpd X.K r H) vs bs → PySem.W.EachIs (fun v b => ∃ as, Reads s'.heap v (pd b) as) vs bs → R vs s') → wpAny (model X.prog X.w) X.A.in1 (collect x) R X.xe s)
    (post : ∀ bs p ws, Bs bs → H p = none → RVs X.K r H (bs.mergeSort cle) ws → Q (.ref p) (upd H p (.lst ws))) : wpAny (model X.prog X.w) X.A (call (.builtin "sorted") [x]) (EP X pins σ Q) X.xe s := by
  refine Calls.call_function_entry PyProof.Rows.kind_sorted PyProof.Rows.plain_sorted PyProof.Rows.entry_sorted (PyProof.Rows.args_sorted1 _) ?_
  unfold Builtin.«sorted»
  refine wpAny_bind (m := checkCount "sorted" 1 1 _) (wpAny_pure (wpAny_bind (coll _ fun s1 vs bs hbs k1 g1 o1 e1 er => ?_)))
  obtain ⟨hn, hd, hs, hz⟩ := hB bs hbs
  obtain ⟨al, so, lk⟩ := sortable_of hn hs
  have hvl : vs.length = bs.length := e1.length
  refine wpAny_bind (wpAny_newList (?_ : wpAny _ _ _ _ _ { s1 with heap := s1.heap.push (seqObj "list" vs.toArray 0) }) (by rw [hvl]; exact hz))
  have hL : (s1.heap.push (seqObj "list" vs.toArray 0)).get? s1.heap.objs.size = some (seqObj "list" vs.toArray 0) := Heap.get?_push_size _ rfl
  have kp : ∀ b o, s1.heap.get? b = some o → (PySem.W.sortingHeap (s1.heap.push (seqObj "list" vs.toArray 0)) s1.heap.objs.size vs).get? b = some o := fun b o e => PySem.W.sortingHeap_old (Nat.ne_of_lt (Heap.lt_size e)) (Heap.get?_push_of_some _ e)
  have er2 : PySem.W.EachIs (fun v b => ∃ as, Reads (PySem.W.sortingHeap (s1.heap.push (seqObj "list" vs.toArray 0)) s1.heap.objs.size vs) v (pd b) as) vs bs := er.mono fun _ _ ⟨as, z⟩ => ⟨as, PyProof.Rows.Reads.keeps kp z⟩
  refine wpAny_bind (wpAny_holding (wpAny_call_entry PyProof.Rows.slot_list_sort ⟨_, hL, rfl⟩ PyProof.Rows.entry_list_sort (PySem.W.list_sort_vals (s := { s1 with heap := s1.heap.push (seqObj "list" vs.toArray 0) }) (κ := PySem.W.dataKind (PySem.W.sortingHeap (s1.heap.push (seqObj "list" vs.toArray 0)) s1.heap.objs.size vs) (bs.map pd)) hL
    (PySem.W.SortsAt.data (s := { s1 with heap := PySem.W.sortingHeap (s1.heap.push (seqObj "list" vs.toArray 0)) s1.heap.objs.size vs }) (PySem.W.each_map (R := fun v d => ∃ as, Reads (PySem.W.sortingHeap (s1.heap.push (seqObj "list" vs.toArray 0)) s1.heap.objs.size vs) v d as) pd er2) al so (PySem.W.bound_map fun b hb => ?_)) (by rw [hvl]; exact hz) ⟨_, rfl, ?_⟩) (PyProof.Rows.args_list_sort _)))
  · have := depth_mem hb
    have h20 : dep = 20 := rfl
    show X.A.units + 2 + _ < _
    omega
  · have eo := PySem.W.sortVals_data false e1 er2 al
    rw [show bs.mergeSort (PySem.W.dataLe false pd) = bs.mergeSort cle from PySem.W.sort_congr fun a ha b hb => by
      rw [PySem.W.dataLe_eq]
      show (!PySem.W.dataLt (pd b) (pd a)) = !clt b a
      rw [clt_pd b a (nref_all hn b hb) (nref_all hn a ha) (lk b hb a ha)]] at eo
    have ho := PySem.W.sortVals_length (κ := PySem.W.dataKind (PySem.W.sortingHeap (s1.heap.push (seqObj "list" vs.toArray 0)) s1.heap.objs.size vs) (bs.map pd)) (vs := vs) false rfl
    obtain ⟨ws, w1, w2⟩ := of_each eo
    generalize PySem.W.sortVals (PySem.W.dataKind (PySem.W.sortingHeap (s1.heap.push (seqObj "list" vs.toArray 0)) s1.heap.objs.size vs) (bs.map pd)) false vs vs = out at eo ho w2 ⊢
    obtain ⟨c, hc⟩ := PyProof.Rows.sortedHeap_at (vs := vs) (out := out.toArray) hL
    have I1 : Inv X pins σ H { s with heap := s1.heap, gens := s1.gens, drawn := s1.drawn, toks := s1.toks } := I.call (ch := []) (Un.kept k1) (I.hok.kept k1) (by rw [g1]; exact I.bare) (fun _ z => nomatch z)
    have hp : H s1.heap.objs.size = none := I1.hok.fresh (Nat.le_refl _)
    have k2 : ∀ b o, s1.heap.get? b = some o → (sortedHeap (s1.heap.push (seqObj "list" vs.toArray 0)) s1.heap.objs.size vs out.toArray).get? b = some o := fun b o e1 => by
      have hlt := Heap.lt_size e1
      rw [PyProof.Rows.sortedHeap_old (Nat.ne_of_lt hlt) (by rw [size_push']; exact Nat.lt_succ_of_lt hlt)]
      exact Heap.get?_push_of_some _ e1
    have hl2 : ws.length ≤ sizeLine := by rw [w2.length, ho, hvl]; exact hz
    have J0 := I1.call (ch := []) (H' := upd H s1.heap.objs.size (.lst ws)) (g' := s1.gens) (d' := s1.drawn) (t' := s1.toks) (h' := sortedHeap (s1.heap.push (seqObj "list" vs.toArray 0)) s1.heap.objs.size vs out.toArray) (Un.laid k2 (Nat.le_refl _) hp) (I1.hok.laid k2 (Nat.le_refl _) ⟨hl2, out, c, w2, hc⟩) (by rw [g1]; exact I.bare) (fun _ z => nomatch z)
    have J : Inv X pins σ (upd H s1.heap.objs.size (.lst ws)) { s with heap := sortedHeap (s1.heap.push (seqObj "list" vs.toArray 0)) s1.heap.objs.size vs out.toArray, gens := s1.gens, drawn := s1.drawn, toks := s1.toks } := J0
    have es : ({ s1 with heap := sortedHeap (s1.heap.push (seqObj "list" vs.toArray 0)) s1.heap.objs.size vs out.toArray } : Shared) = { s with heap := sortedHeap (s1.heap.push (seqObj "list" vs.toArray 0)) s1.heap.objs.size vs out.toArray, gens := s1.gens, drawn := s1.drawn, toks := s1.toks } := by
      cases s1; cases s; cases o1; rfl
    refine wpAny_pure ⟨_, rfl, ?_⟩
    show EP X pins σ Q _ _
    rw [es]
    exact ⟨.ref _, _, J, rfl, post bs _ ws hbs hp w1⟩
theorem srt_coll {pins : List (Addr × Obj)} {σ : L2.St} {s : Shared} {x : Value} {bs : List CV} {Q : VK} (hu : X.A.units + 70 < cLine) (I : Inv X pins σ H s) (hn : nrefs bs = true) (hd : PyData.depthAll (pds bs) ≤ dep) (hs : sortable bs = true) (hz : bs.length ≤ sizeLine)
    (coll : ∀ R : List Value → Shared → Prop, (∀ s' vs, (∀ b o, s.heap.get? b = some o → s'.heap.get? b = some o) → s'.gens = s.gens → s'.os = s.os → PySem.W.EachIs (Rpd X.K r H) vs bs → PySem.W.EachIs (fun v b => ∃ as, Reads s'.heap v (pd b) as) vs bs → R vs s') → wpAny (model X.prog X.w) X.A.in1 (collect x) R X.xe s)
    (post : ∀ p ws, H p = none → RVs X.K r H (bs.mergeSort cle) ws → Q (.ref p) (upd H p (.lst ws))) : wpAny (model X.prog X.w) X.A (call (.builtin "sorted") [x]) (EP X pins σ Q) X.xe s :=
  srt_collB (· = bs) hu I (fun b e => by rw [e]; exact ⟨hn, hd, hs, hz⟩) (fun R hR => coll R fun s' vs k g o e er => hR s' vs bs rfl k g o e er) fun b p ws e hp w => by
    rw [e] at w
    exact post p ws hp w
theorem each_at {α β : Type} {R : α → β → Prop} : ∀ {vs : List α} {bs : List β}, vs.length = bs.length → (∀ (j : Nat) (v : α) (b : β), vs[j]? = some v → bs[j]? = some b → R v b) → PySem.W.EachIs R vs bs
  | [], [], _, _ => .nil
  | [], _ :: _, hl, _ => by simp at hl
  | _ :: _, [], hl, _ => by simp at hl
  | v :: vs, b :: bs, hl, g => .cons (g 0 v b rfl rfl) (each_at (by simpa using hl) fun j x y e1 e2 => g (j + 1) x y (by simpa using e1) (by simpa using e2))
theorem paired_at {α β : Type} {R : α → β → Prop} : ∀ {xs : List α} {ys : List β}, Paired R xs ys → ∀ {j : Nat} {x : α} {y : β}, xs[j]? = some x → ys[j]? = some y → R x y
  | _, _, .nil, _, _, _, e, _ => by simp at e
  | _, _, .cons h t, 0, _, _, e1, e2 => by simp at e1 e2; subst e1 e2; exact h
  | _, _, .cons h t, j + 1, _, _, e1, e2 => paired_at t (j := j) (by simpa using e1) (by simpa using e2)
theorem toS_list (x : Str) : toS x.cps.toList = x := by cases x; simp [toS]
/-- a key, read -/
theorem rv_key {K : PySem.W.Frag} (k : Key) : RV K r H (ofKey k) (kV k) := by
  cases k with
  | inl i => exact .int i
  | inr x =>
    have := RV.str (K := K) (r := r) (H := H) x.cps.toList
    rw [toS_list] at this
    exact this
theorem key_rel {k : Key} {v : Value} (e : keyIs k v = true) : RelV (kV k) v ∧ ∀ h : Heap, ∃ as, Reads h v (pd (ofKey k)) as := by
  rcases keyIs_shape e with ⟨i, t, rfl, rfl⟩ | ⟨x, t, rfl, rfl⟩
  · exact ⟨⟨t, rfl⟩, fun h => ⟨[], .int i t⟩⟩
  · refine ⟨⟨t, rfl⟩, fun h => ⟨[], ?_⟩⟩
    show Reads h (.str x t) (.str (toS x.cps.toList)) []
    rw [toS_list]
    exact .str x t
theorem rvs_keys {K : PySem.W.Frag} : ∀ ks : List Key, RVs K r H (ks.map ofKey) (ks.map kV)
  | [] => .nil
  | k :: ks => .cons (rv_key k) (rvs_keys ks)
theorem nref_key (k : Key) : nref (ofKey k) = true := by cases k <;> rfl
theorem nrefs_of {xs : List CV} (g : ∀ x ∈ xs, nref x = true) : nrefs xs = true := by
  induction xs with
  | nil => rfl
  | cons x xs ih => simp only [nrefs, g x List.mem_cons_self, ih fun y hy => g y (List.mem_cons_of_mem _ hy), Bool.and_self]
theorem depths_of {xs : List CV} {n : Nat} (g : ∀ x ∈ xs, (pd x).depth ≤ n) : PyData.depthAll (pds xs) ≤ n := by
  induction xs with
  | nil => exact Nat.zero_le _
  | cons x xs ih =>
    simp only [pds, PyData.depthAll]
    exact Nat.max_le.mpr ⟨g x List.mem_cons_self, ih fun y hy => g y (List.mem_cons_of_mem _ hy)⟩
theorem dep_key (k : Key) : (pd (ofKey k)).depth ≤ 0 := by cases k <;> exact Nat.le_refl _
theorem dp_keys : ∀ k : List Key, DpAll X.K H (k.map kV) (pds (k.map ofKey))
  | [] => .nil
  | .inl i :: k => .cons (.int i) (dp_keys k)
  | .inr x :: k => by
    refine .cons (?_ : Dp X.K H (.str x) (.str (toS x.cps.toList))) (dp_keys k)
    rw [toS_list]
    exact .str x
/-- the names of a dict, sorted -/
theorem sorted_dct (hc : X.calm = true) (hu : X.A.units + 70 < cLine) {a : Addr} {kvs : List (CV × CV)} {u : HO} {Q : VK} (ha : H a = some u) (d : RD X.K r H kvs u) (hs : sortable (kvs.map (·.1)) = true)
    (post : ∀ p ws, H p = none → RVs X.K r H ((kvs.map (·.1)).mergeSort cle) ws → Q (.ref p) (upd H p (.lst ws))) : wC X (.builtin "sorted") [.ref a] H Q := by
  intro pins s σ us I rv
  obtain ⟨u1, rfl, ru⟩ := vals1 rv
  cases ru
  rcases d with ⟨es, rfl, d⟩ | ⟨es, rfl, d⟩
  · obtain ⟨z, lo, vs, rel, dd⟩ := dk_rd I.hok (.inl ha)
    obtain ⟨ep, hat⟩ := dd.dictAt
    have e1 : kvs.length = es.length := Paired.length d
    have e2 : es.length = vs.length := rel.length
    have ek : vs.map (·.1) = es.map (·.1) := rel.keys.symm
    have kof : ∀ x ∈ kvs.map (·.1), ∃ k : Key, x = ofKey k := fun x hx => by
      obtain ⟨p, hp, rfl⟩ := List.mem_map.mp hx
      obtain ⟨j, hj⟩ := List.getElem?_of_mem hp
      have hl : j < es.length := by rw [← e1]; exact (List.getElem?_eq_some_iff.mp hj).1
      exact ⟨_, (paired_at d hj (List.getElem?_eq_getElem hl)).1⟩
    refine srt_coll hu I (nrefs_of fun x hx => by obtain ⟨k, rfl⟩ := kof x hx; exact nref_key k) (depths_of fun x hx => by obtain ⟨k, rfl⟩ := kof x hx; exact Nat.le_trans (dep_key k) (Nat.zero_le _)) hs (by rw [List.length_map, e1]; exact z) (fun R hR => ?_) post
    refine PySem.W.kdu_collect (A := X.A.in1) (PySem.W.kdl_dict (knd := mixKind X.prog X.w) (kvs := vs) (ep := ep) lo) (I.ok.hd hc) hat (by omega) fun h' tk acc hk hacc => ?_
    have at' : ∀ (j : Nat) (v : Value) (b : CV), acc.toList[j]? = some v → (kvs.map (·.1))[j]? = some b → ∃ k : Key, b = ofKey k ∧ keyIs k v = true := fun j v b h1 h2 => by
      obtain ⟨k, x, e3, e4⟩ := hacc.2 j v (by rw [← Array.getElem?_toList]; exact h1)
      refine ⟨k, ?_, e4⟩
      rw [List.getElem?_map, Option.map_eq_some_iff] at h2
      obtain ⟨p, hp, rfl⟩ := h2
      have hl : j < es.length := by rw [← e1]; exact (List.getElem?_eq_some_iff.mp hp).1
      have h5 := (paired_at d hp (List.getElem?_eq_getElem hl)).1
      have h6 : (es.map (·.1))[j]? = some k := by rw [← ek, List.getElem?_map, e3]; rfl
      rw [List.getElem?_map, List.getElem?_eq_getElem hl] at h6
      cases h6
      exact h5
    have hal : acc.toList.length = (kvs.map (·.1)).length := by rw [Array.length_toList, hacc.1, List.length_map]; omega
    refine hR { s with heap := h', toks := tk } acc.toList hk rfl rfl (each_at hal fun j v b h1 h2 => ?_) (each_at hal fun j v b h1 h2 => ?_)
    · obtain ⟨k, rfl, e⟩ := at' j v b h1 h2
      exact ⟨kV k, (key_rel e).1, rv_key k⟩
    · obtain ⟨k, rfl, e⟩ := at' j v b h1 h2
      exact (key_rel e).2 h'
  · obtain ⟨z, hz, ks, pr, o, es', ep, ho, hx, hdt, he, hn⟩ := (show ObjOk X.prog X.w H s.heap a (.dT es) from I.hok a _ ha)
    have l1 : es'.size = ks.length := size_of_entries he
    have l2 : es.length = ks.length := Paired.length pr
    have e1 : kvs.length = es.length := Paired.length d
    have ik := isKeys_of pr
    have kof : ∀ x ∈ kvs.map (·.1), ∃ k : List Key, x = .tup (k.map ofKey) := fun x hx => by
      obtain ⟨p, hp, rfl⟩ := List.mem_map.mp hx
      obtain ⟨j, hj⟩ := List.getElem?_of_mem hp
      have hl : j < es.length := by rw [← e1]; exact (List.getElem?_eq_some_iff.mp hj).1
      exact ⟨_, (paired_at d hj (List.getElem?_eq_getElem hl)).1⟩
    have nk : ∀ k : List Key, nrefs (k.map ofKey) = true := fun k => nrefs_of fun x hx => by obtain ⟨k, _, rfl⟩ := List.mem_map.mp hx; exact nref_key k
    have dk : ∀ k : List Key, PyData.depthAll (pds (k.map ofKey)) ≤ 0 := fun k => depths_of fun x hx => by obtain ⟨k, _, rfl⟩ := List.mem_map.mp hx; exact dep_key k
    refine srt_coll hu I (nrefs_of fun x hx => by obtain ⟨k, rfl⟩ := kof x hx; exact nk k) (depths_of (n := dep) fun x hx => by
      obtain ⟨k, rfl⟩ := kof x hx
      have := dk k
      have h20 : dep = 20 := rfl
      simp only [pd, PyData.depth]
      omega) hs (by rw [List.length_map, e1]; exact z) (fun R hR => ?_) post
    refine PySem.W.kdu_collect (A := X.A.in1) (kdl_raw hz hx hdt) (I.ok.hd hc) ho (by omega) fun h' tk acc hk hacc => ?_
    have I1 : Inv X pins σ H { s with heap := h', toks := tk } := I.kept hk
    have at' : ∀ (j : Nat) (v : Value) (b : CV), acc.toList[j]? = some v → (kvs.map (·.1))[j]? = some b → ∃ (k : List Key) (p : Addr), b = .tup (k.map ofKey) ∧ v = .ref p ∧ H p = some (.tup (k.map kV)) := fun j v b h1 h2 => by
      obtain ⟨en, hen, hv⟩ := hacc.2 j v (by rw [← Array.getElem?_toList]; exact h1)
      rw [List.getElem?_map, Option.map_eq_some_iff] at h2
      obtain ⟨p, hp, rfl⟩ := h2
      have hl : j < es.length := by rw [← e1]; exact (List.getElem?_eq_some_iff.mp hp).1
      have h5 := (paired_at d hp (List.getElem?_eq_getElem hl)).1
      have hl2 : j < ks.length := by omega
      have qe := entry_at he j
      rw [hen, List.getElem?_eq_getElem hl2] at qe
      have e2 : en = entryOfKey (tupleKind (mixKind X.prog X.w)) ks[j] := Option.some.inj qe
      have h7 := paired_at ik (List.getElem?_eq_getElem hl) (by rw [List.getElem?_map, List.getElem?_eq_getElem hl2]; rfl)
      refine ⟨es[j].1, ks[j].2.1, h5, ?_, h7⟩
      rw [hv, e2]
      rfl
    have hal : acc.toList.length = (kvs.map (·.1)).length := by rw [Array.length_toList, hacc.1, List.length_map]; omega
    refine hR { s with heap := h', toks := tk } acc.toList hk rfl rfl (each_at hal fun j v b h1 h2 => ?_) (each_at hal fun j v b h1 h2 => ?_)
    · obtain ⟨k, p, rfl, rfl, e⟩ := at' j v b h1 h2
      exact ⟨.ref p, rfl, .tup e (rvs_keys k)⟩
    · obtain ⟨k, p, rfl, rfl, e⟩ := at' j v b h1 h2
      refine Dp.reads I1 (pd (.tup (k.map ofKey))) (.ref p) (.ref p) (.tup (SqT.of e) ?_) rfl
      have := dp_keys (X := X) (H := H) k
      exact this
theorem each_reads {pins : List (Addr × Obj)} {σ : L2.St} {s : Shared} (I : Inv X pins σ H s) : ∀ {xs : List CV} {vs : List V} {us : List Value}, DpAll X.K H vs (pds xs) → Vals vs us → PySem.W.EachIs (fun v b => ∃ as, Reads s.heap v (pd b) as) us xs
  | [], _, _, d, r => by cases d; cases r; exact .nil
  | x :: xs, _, _, d, r => by
    cases d with
    | cons d1 d2 =>
      cases r with
      | cons r1 r2 => exact .cons (Dp.reads I _ _ _ d1 r1) (each_reads I d2 r2)
/-- a list's, a tuple's items, sorted -/
theorem sorted_seq {h : CH} {a : Addr} {xs : List CV} {us : List V} {Q : VK} (hu : X.A.units + 70 < cLine) (q : RH X.prog X.w X.K r h H) (g : SqL X.K H a us ∨ SqT X.K H a us) (rs : RVs X.K r H xs us) (e1 : dens h dep xs = some xs) (e2 : sortable xs = true)
    (post : ∀ p ws, H p = none → RVs X.K r H (xs.mergeSort cle) ws → Q (.ref p) (upd H p (.lst ws))) : wC X (.builtin "sorted") [.ref a] H Q := by
  intro pins s σ vs I rv
  obtain ⟨u1, rfl, ru⟩ := vals1 rv
  cases ru
  obtain ⟨d1, d2, d3⟩ := dens_ok q _ _ _ _ e1 rs
  have hlen := rs.length
  rcases g with g | g
  · obtain ⟨its, r2, ⟨o, n, ho, hc, hd, ht⟩, hz⟩ := I.list g
    refine srt_coll hu I d2 d3 e2 (by omega) (fun R hR => ?_) post
    refine wpAny_collect_seq a (.inl rfl) ho hc ht (fun h' hk => ?_) (by rw [List.size_toArray, ← r2.length]; omega)
    have I1 : Inv X pins σ H { s with heap := h' } := I.kept (t' := s.toks) hk
    exact hR { s with heap := h' } its hk rfl rfl (each_of rs r2) (each_reads I1 d1 r2)
  · obtain ⟨its, r2, ⟨o, ho, hc, n, ht⟩, hz⟩ := I.tuple g
    refine srt_coll hu I d2 d3 e2 (by omega) (fun R hR => ?_) post
    refine wpAny_collect_seq a (.inr rfl) ho hc ht (fun h' hk => ?_) (by rw [List.size_toArray, ← r2.length]; omega)
    have I1 : Inv X pins σ H { s with heap := h' } := I.kept (t' := s.toks) hk
    exact hR { s with heap := h' } its hk rfl rfl (each_of rs r2) (each_reads I1 d1 r2)
/-! sets of texts -/
theorem perm_of_nodup {α : Type} [DecidableEq α] : ∀ {ks ts : List α}, ks.Nodup → (∀ k ∈ ks, k ∈ ts) → ts.length ≤ ks.length → ks.Perm ts
  | [], ts, _, _, h => by
    have : ts = [] := List.eq_nil_of_length_eq_zero (by simpa using h)
    rw [this]
  | k :: ks, ts, nd, hm, hl => by
    have h1 : k ∈ ts := hm k List.mem_cons_self
    have h2 : (k :: ks).length = ks.length + 1 := rfl
    have h3 := List.length_erase_of_mem h1
    have p := perm_of_nodup (ks := ks) (ts := ts.erase k) (List.nodup_cons.mp nd).2 (fun y hy => by
      rw [List.mem_erase_of_ne]
      · exact hm y (List.mem_cons_of_mem _ hy)
      · rintro rfl; exact (List.nodup_cons.mp nd).1 hy) (by omega)
    exact (p.cons k).trans (List.perm_cons_erase h1).symm
def txOf : Value → Str
  | .str x _ => x
  | _ => ⟨#[]⟩
def cvT (k : Str) : CV := .str k.cps.toList
def leS (a b : List Nat) : Bool := !slt b a
theorem leS_le (a b : List Nat) : leS a b = decide (a ≤ b) := by
  unfold leS
  rw [← slt_eq]
  by_cases h : b < a
  · rw [decide_eq_true h, decide_eq_false (show ¬ a ≤ b from fun z => z h)]; rfl
  · rw [decide_eq_false h, decide_eq_true (show a ≤ b from h)]; rfl
theorem sort_strs (ks : List (List Nat)) : (ks.map CV.str).mergeSort cle = (ks.mergeSort leS).map CV.str :=
  (List.map_mergeSort (f := CV.str) (r := leS) (s := cle) (l := ks) fun a _ b _ => by simp only [cle, clt, leS]).symm
theorem sort_perm {ks ls : List (List Nat)} (p : ks.Perm ls) : ks.mergeSort leS = ls.mergeSort leS := by
  have tr : ∀ a b c : List Nat, leS a b = true → leS b c = true → leS a c = true := fun a b c h1 h2 => by
    rw [leS_le, decide_eq_true_eq] at h1 h2 ⊢
    exact List.le_trans h1 h2
  have tt : ∀ a b : List Nat, (leS a b || leS b a) = true := fun a b => by
    rw [leS_le, leS_le, Bool.or_eq_true, decide_eq_true_eq, decide_eq_true_eq]
    exact List.le_total a b
  refine List.Perm.eq_of_pairwise (fun a b _ _ h1 h2 => ?_) (List.pairwise_mergeSort tr tt ks) (List.pairwise_mergeSort tr tt ls) (((List.mergeSort_perm ks leS).trans p).trans (List.mergeSort_perm ls leS).symm)
  rw [leS_le, decide_eq_true_eq] at h1 h2
  exact List.le_antisymm h1 h2
theorem sorted_tx (hc : X.calm = true) (hu : X.A.units + 70 < cLine) {a : Addr} {ks : List Str} {Q : VK} (ha : H a = some (TxO X.prog X.w a ks))
    (post : ∀ p ws, H p = none → RVs X.K r H ((ks.map cvT).mergeSort cle) ws → Q (.ref p) (upd H p (.lst ws))) : wC X (.builtin "sorted") [.ref a] H Q := by
  intro pins s σ us I rv
  obtain ⟨u1, rfl, ru⟩ := vals1 rv
  cases ru
  obtain ⟨⟨es, ep, t⟩, ho, F, nd, hr, hl, hz⟩ := TxO.get I ha
  have hf : t.fits es.size = true := F.fit
  have hsz : es.size = ks.length := F.sz
  have hb : es.size < scanBound := by rw [hsz]; exact hz
  have tx : ∀ e ∈ es.toList, ∃ k u, e.2 = Value.str k u := fun e he => by
    obtain ⟨k, hk, _⟩ := (F.el e he).1
    obtain ⟨u, q⟩ := Value.isStrOf_shape (x := k) (v := e.2) hk
    exact ⟨k, u, q⟩
  have pm : ks.Perm (es.toList.map fun e => txOf e.2) := perm_of_nodup nd (fun k hk => by
    obtain ⟨e, he, q⟩ := (F.mem k).mp hk
    obtain ⟨u, q2⟩ := Value.isStrOf_shape (x := k) (v := e.2) q
    exact List.mem_map.mpr ⟨e, he, by rw [q2]; rfl⟩) (by rw [List.length_map, Array.length_toList, hsz]; exact Nat.le_refl _)
  have hstr : ∀ bs : List CV, bs.Perm (ks.map cvT) → ∃ ts : List (List Nat), bs = ts.map CV.str ∧ ts.Perm (ks.map (·.cps.toList)) := fun bs hbs => by
    refine ⟨bs.map (fun b => match b with | .str t => t | _ => []), ?_, ?_⟩
    · rw [List.map_map]
      refine (List.map_id bs).symm.trans (List.map_congr_left fun b hb => ?_)
      obtain ⟨k, _, rfl⟩ := List.mem_map.mp (hbs.mem_iff.mp hb)
      rfl
    · have := hbs.map (fun b => match b with | .str t => t | _ => ([] : List Nat))
      rw [List.map_map] at this
      exact this
  have hall : ∀ ts : List (List Nat), sortable (ts.map CV.str) = true := fun ts => by
    unfold sortable
    simp only [List.all_map, Bool.and_eq_true, Bool.or_eq_true, List.all_eq_true, Function.comp, clike, implies_true, true_and]
    exact .inr trivial
  refine srt_collB (r := r) (fun bs => bs.Perm (ks.map cvT)) hu I (fun bs hbs => ?_) (fun R hR => ?_) fun bs p ws hbs hp w => ?_
  · obtain ⟨ts, rfl, pt⟩ := hstr bs hbs
    refine ⟨nrefs_of fun x hx => ?_, depths_of (n := dep) fun x hx => ?_, hall ts, ?_⟩
    · obtain ⟨t, _, rfl⟩ := List.mem_map.mp hx; rfl
    · obtain ⟨t, _, rfl⟩ := List.mem_map.mp hx; exact Nat.zero_le _
    · rw [List.length_map, pt.length_eq, List.length_map]
      exact Nat.le_of_lt (Nat.lt_of_lt_of_le hz (by decide))
  · refine collect_set (A := X.A.in1) (I.ok.hd hc) ⟨_, ho, rfl, rfl⟩ hf hb hr hl fun s1 vs k1 hz g1 o1 p1 => ?_
    have vt : ∀ v ∈ vs, ∃ k u, v = Value.str k u := fun v hv => by
      obtain ⟨e, he, q⟩ := List.mem_map.mp (p1.mem_iff.mp hv)
      obtain ⟨k, u, q2⟩ := tx e he
      exact ⟨k, u, by rw [← q, q2]⟩
    refine hR s1 vs (vs.map fun v => cvT (txOf v)) ?_ k1 g1 o1 (each_at (by simp) fun j v b h1 h2 => ?_) (each_at (by simp) fun j v b h1 h2 => ?_)
    · have p2 := p1.map fun v => cvT (txOf v)
      rw [List.map_map] at p2
      refine p2.trans ?_
      have p3 := (pm.map cvT).symm
      rw [List.map_map] at p3
      exact p3
    · rw [List.getElem?_map, h1] at h2
      cases h2
      obtain ⟨k, u, rfl⟩ := vt v (List.mem_of_getElem? h1)
      refine ⟨.str k, ⟨u, rfl⟩, ?_⟩
      exact rv_key (.inr k)
    · rw [List.getElem?_map, h1] at h2
      cases h2
      obtain ⟨k, u, rfl⟩ := vt v (List.mem_of_getElem? h1)
      refine ⟨[], ?_⟩
      show Reads s1.heap (.str k u) (.str (toS k.cps.toList)) []
      rw [toS_list]
      exact .str k u
  · obtain ⟨ts, rfl, pt⟩ := hstr bs hbs
    refine post p ws hp ?_
    rw [sort_strs, sort_perm pt, ← sort_strs, List.map_map] at w
    exact w
theorem set_call (hc : X.calm = true) {a : Addr} {xs : List Str} {Q : VK} (g : SqL X.K H a (xs.map V.str) ∨ SqT X.K H a (xs.map V.str)) (hl : xs.length + 1 < scanBound)
    (post : ∀ p, H p = none → Q (.ref p) (upd H p (TxO X.prog X.w p (insAll [] xs)))) : wC X (.type "set") [.ref a] H Q := by
  intro pins s σ us I rv
  obtain ⟨u1, rfl, ru⟩ := vals1 rv
  cases ru
  rcases g with g | g
  · obtain ⟨its, r2, p, hz⟩ := I.list g
    exact set_of_list xs (I.ok.hd hc) p.isList (by simpa using strsAre_of r2) hl fun h' tk R k => ⟨.ref s.heap.objs.size, upd H _ (TxO X.prog X.w _ (insAll [] xs)), I.laid (t' := tk) k (Nat.le_refl _) (TxO.new R), rfl, post _ (I.hok.fresh (Nat.le_refl _))⟩
  · obtain ⟨its, r2, p, hz⟩ := I.tuple g
    exact set_of_tuple xs (I.ok.hd hc) p (by simpa using strsAre_of r2) hl fun h' tk R k => ⟨.ref s.heap.objs.size, upd H _ (TxO X.prog X.w _ (insAll [] xs)), I.laid (t' := tk) k (Nat.le_refl _) (TxO.new R), rfl, post _ (I.hok.fresh (Nat.le_refl _))⟩
theorem len_tx {a : Addr} {ks : List Str} {Q : VK} (ha : H a = some (TxO X.prog X.w a ks)) (post : Q (.int ks.length) H) : wC X (.builtin "len") [.ref a] H Q := by
  intro pins s σ us I rv
  obtain ⟨u1, rfl, ru⟩ := vals1 rv
  cases ru
  obtain ⟨⟨es, ep, t⟩, ho, F, nd, hr, hl, hz⟩ := TxO.get I ha
  have hsz : es.size = ks.length := F.sz
  have hb : ks.length < 4096 := hz
  exact call_len_set ho ⟨rfl, rfl, rfl⟩ rfl F.fit (by rw [hsz]; omega) ⟨.int ks.length, H, I.tok _, ⟨_, by rw [hsz]⟩, post⟩
/-! sets of ints -/
theorem ints_are : ∀ {ns : List Int} {us : List Value}, Vals (ns.map V.int) us → IntsAre us ns
  | [], _, .nil => .nil
  | n :: ns, _, .cons rel rest => by
    obtain ⟨k, rfl⟩ := rel
    exact .cons n k (ints_are rest)
theorem len_of_mem {as bs : List Int} (h1 : as.Nodup) (h2 : bs.Nodup) (h : ∀ k, k ∈ as ↔ k ∈ bs) : as.length = bs.length :=
  ((List.perm_ext_iff_of_nodup h1 h2).mpr h).length_eq
theorem setR_count {w : World} {hp : Heap} {a : Addr} {ns : List Int} {c : Nat} (R : SetR w hp a (fun j => decide (j ∈ ns)) c) (nd : ns.Nodup) : c = ns.length := by
  obtain ⟨o, es, ep, t, _, _, _, _, k1, k2, _, _, k3, _⟩ := R
  rw [← k3, ← Array.length_toList, ← List.length_map (f := keyOf)]
  exact len_of_mem k1 nd fun k => by rw [← k2 k, decide_eq_true_eq]
theorem set_callI (hc : X.calm = true) {a : Addr} {ns : List Int} {Q : VK} (g : SqT X.K H a (ns.map V.int)) (nd : ns.Nodup) (hl : ns.length ≤ 4000)
    (post : ∀ p, H p = none → Q (.ref p) (upd H p (SetO X.w p (fun j => decide (j ∈ ns)) ns.length))) : wC X (.type "set") [.ref a] H Q := by
  intro pins s σ us I rv
  obtain ⟨u1, rfl, ru⟩ := vals1 rv
  cases ru
  have fin : ∀ (hp : Heap) (tk : Nat), SetR X.w hp s.heap.objs.size (fun j => decide (j ∈ ns)) ns.length → (∀ b o, s.heap.get? b = some o → hp.get? b = some o) → EP X pins σ Q (.ref s.heap.objs.size) { s with heap := hp, toks := tk } := fun hp tk R k =>
    ⟨.ref s.heap.objs.size, upd H _ (SetO X.w _ (fun j => decide (j ∈ ns)) ns.length), I.laid (t' := tk) k (Nat.le_refl _) (setO_new R), rfl, post _ (I.hok.fresh (Nat.le_refl _))⟩
  obtain ⟨its, r2, p, hz⟩ := I.tuple g
  refine call_set_tupI ns (I.ok.hd hc) p (by simpa using ints_are r2) (Nat.lt_of_le_of_lt (Nat.succ_le_succ hl) (by decide)) fun hp tk c R _ k => ?_
  have := setR_count R nd
  subst this
  exact fin hp tk R k
theorem len_si {a : Addr} {ns : List Int} {Q : VK} (ha : H a = some (SetO X.w a (fun j => decide (j ∈ ns)) ns.length)) (hn : ns.length ≤ 4000) (post : Q (.int ns.length) H) : wC X (.builtin "len") [.ref a] H Q := by
  intro pins s σ us I rv
  obtain ⟨u1, rfl, ru⟩ := vals1 rv
  cases ru
  obtain ⟨o, es, ep, t, ho, hex, hd, _, _, _, _, hf, hsz, _⟩ := setO_get I ha
  exact call_len_set ho hex hd hf (by rw [hsz]; omega) ⟨.int ns.length, H, I.tok _, ⟨_, by rw [hsz]⟩, post⟩
theorem sorted_si0 (hc : X.calm = true) {a : Addr} {Q : VK} (ha : H a = some (SetO X.w a (fun j => decide (j ∈ ([] : List Int))) ([] : List Int).length)) (post : ∀ p, H p = none → Q (.ref p) (upd H p (.lst []))) : wC X (.builtin "sorted") [.ref a] H Q := by
  refine CallR.w (cr_sortedSet hc) ⟨a, _, _, rfl, ha, by decide, fun ns p _ _ hl hn => ?_⟩
  have : ns = [] := List.eq_nil_of_length_eq_zero hl
  subst this
  exact post p hn
end
end TH

/-! min of a list of data. -/
namespace TH
open PySem PySem.Spec PyProof.Rows L2
section
variable {X : Cx} {r : Ren} {H : Hp}
theorem each_len {α β : Type} {R : α → β → Prop} {vs : List α} {bs : List β} (h : PySem.W.EachIs R vs bs) : vs.length = bs.length := h.length
theorem each_get {α β : Type} {R : α → β → Prop} : ∀ {vs : List α} {bs : List β}, PySem.W.EachIs R vs bs → ∀ {j : Nat} {v : α}, vs[j]? = some v → ∃ b, bs[j]? = some b ∧ R v b
  | _, _, .nil, j, v, e => by simp at e
  | _, _, .cons h t, 0, v, e => by simp at e; subst e; exact ⟨_, rfl, h⟩
  | _, _, .cons h t, j + 1, v, e => each_get t (j := j) (by simpa using e)
theorem min_seq {h : CH} {a : Addr} {x : CV} {xs : List CV} {us : List V} {Q : VK} (hcalm : X.calm = true) (hu : X.A.units + 70 < cLine) (q : RH X.prog X.w X.K r h H) (g : SqL X.K H a us) (rs : RVs X.K r H (x :: xs) us) (e1 : dens h dep (x :: xs) = some (x :: xs)) (e2 : sortable (x :: xs) = true)
    (post : ∀ v, RV X.K r H (xs.foldl (fun a y => if clt y a = true then y else a) x) v → Q v H) : wC X (.builtin "min") [.ref a] H Q := by
  intro pins s σ vs I rv
  obtain ⟨u1, rfl, ru⟩ := vals1 rv
  cases ru
  obtain ⟨d1, d2, d3⟩ := dens_ok q _ _ _ _ e1 rs
  obtain ⟨al, so, lk⟩ := sortable_of d2 e2
  have hlen := rs.length
  obtain ⟨its, r2, ⟨o, n, ho, hc, hd, ht⟩, hz⟩ := I.list g
  have hl : s.heap.IsList a its.toArray := ⟨o, ho, hc, n, ht⟩
  have er := each_reads I d1 r2
  have ev := each_of rs r2
  have el := er.length
  have hh : X.A.handled = none := I.ok.hd hcalm
  have hat : ∀ (j : Nat) (v : Value), its.toArray[j]? = some v → ∃ c, (x :: xs).getD j .non = c ∧ c ∈ (x :: xs) ∧ (∃ as, Reads s.heap v (pd c) as) := fun j v e => by
    rw [List.getElem?_toArray] at e
    obtain ⟨c, hc, as, hr⟩ := each_get er e
    exact ⟨c, by rw [List.getD_eq_getElem?_getD, hc]; rfl, List.mem_of_getElem? hc, as, hr⟩
  refine call_min_walkH (PySem.W.iter_listW (A := X.A.in1) hh hl fun s₂ e W st hfp hw hk => ?_)
  refine ⟨_, _, _, _, _, _, _, s.heap, fun i j => clt ((x :: xs).getD i .non) ((x :: xs).getD j .non), rfl, W, st, hfp, by rw [List.size_toArray, el]; simp, hw, hk, fun i j vi vj s' Q' E' hk' hi hj hq => ?_, fun v s' hP m => ?_⟩
  · obtain ⟨c1, ec1, m1, as1, r1⟩ := hat i vi hi
    obtain ⟨c2, ec2, m2, as2, r2'⟩ := hat j vj hj
    have hq : Q' (.bool (clt ((x :: xs).getD i .non) ((x :: xs).getD j .non))) s' := hq
    rw [ec1, ec2] at hq
    have n1 := nref_all d2 c1 m1
    have n2 := nref_all d2 c2 m2
    have hne : pd c1 ≠ .none := by
      rcases so with so | so
      · obtain ⟨y, ys, z⟩ := so (pd c1) (List.mem_map_of_mem m1)
        rw [z]; exact fun z => nomatch z
      · exact (so (pd c1) (List.mem_map_of_mem m1)).1
    have hda := depth_mem m1
    refine PySem.W.rcLt_alike _ _ X.A.in1 s' vi vj _ _ (PySem.W.reads_keeps hk' r1) (PySem.W.reads_keeps hk' r2') (by rw [clike_pd c1 c2 n1 n2]; exact lk c1 m1 c2 m2) hne ?_ X.prog X.w E' Q' (by rw [clt_pd c1 c2 n1 n2 (lk c1 m1 c2 m2)]; exact hq)
    have := Nat.min_le_left (pd c1).depth (pd c2).depth
    have h20 : dep = 20 := rfl
    show X.A.units + 1 + _ < _
    omega
  · obtain ⟨h', tk, rfl, hk'⟩ := PySem.W.moved_old e rfl m
    have e1 : its.toArray.size - 1 = xs.length := by rw [List.size_toArray, el]; simp
    rw [e1] at hP
    obtain ⟨_, e3⟩ := PySem.W.argBest_fold (α := CV) (fun a b => clt a b) CV.non x xs xs.length (Nat.le_refl _)
    rw [List.take_length] at e3
    have hP' : its[PySem.argBest (fun i j => clt ((x :: xs).getD i .non) ((x :: xs).getD j .non)) xs.length]? = some v := by rw [← List.getElem?_toArray]; exact hP
    obtain ⟨c, hc2, u, ru, rvu⟩ := each_get ev hP'
    have ec : (x :: xs).getD (PySem.argBest (fun i j => clt ((x :: xs).getD i .non) ((x :: xs).getD j .non)) xs.length) .non = c := by rw [List.getD_eq_getElem?_getD, hc2]; rfl
    rw [ec] at e3
    rw [e3] at rvu
    exact ⟨u, _, I.kept (t' := tk) hk', ru, post u rvu⟩
end
end TH

/-! Built-ins by values: calls. -/
namespace TH
open PySem PySem.Spec PyProof.Rows L2
section
variable {X : Cx} {r : Ren} {H : Hp} {h h' : CH} {c : CV} {Q : VK}
/-- len -/
theorem len_dct (hu : X.A.units + 64 < cLine) (q : RH X.prog X.w X.K r h H) {n : Nat} {a : Addr} {kvs : List (CV × CV)} (hn : h[n]? = some (.dct kvs)) (ha : r[n]? = some a) (p : PostE X r H (.int kvs.length) h Q) : wC X (.builtin "len") [.ref a] H Q := by
  obtain ⟨u, e, d⟩ := q.ob n _ a hn ha
  intro pins s σ us I rv
  obtain ⟨u1, rfl, ru⟩ := vals1 rv
  cases ru
  rcases d with ⟨es, rfl, d⟩ | ⟨es, rfl, d⟩
  · refine d_len I (.inl e) fun t s' I' => ⟨.int es.length, H, I', ⟨t, rfl⟩, ?_⟩
    rw [← Paired.length d]; exact p.same q (.int _)
  · exact (call_len_dT (X := X)) pins s σ H [.ref a] [.ref a] Q I rv ⟨a, es, rfl, e, by rw [← Paired.length d]; exact p.same q (.int _)⟩
def biOf : Bi → Value
  | .len => .builtin "len" | .all => .builtin "all" | .any => .builtin "any" | .tuple => .type "tuple" | .list => .type "list" | .set => .type "set" | .sorted => .builtin "sorted" | .int => .type "int" | .abs => .builtin "abs" | .divmod => .builtin "divmod"
  | .min1 => .builtin "min" | .max1 => .builtin "max" | .min2 => .builtin "min" | .max2 => .builtin "max" | .sum => .builtin "sum" | .isi _ => .builtin "isinstance" | .dict1 => .type "dict"
theorem tx_all : ∀ {xs : List CV}, xs.all isTx = true → ∃ ks : List (List Nat), xs = ks.map CV.str
  | [], _ => ⟨[], rfl⟩
  | x :: xs, h => by
    rw [List.all_cons, Bool.and_eq_true] at h
    obtain ⟨ks, rfl⟩ := tx_all h.2
    cases x with
    | str k => exact ⟨k :: ks, rfl⟩
    | _ => exact absurd h.1 (by simp [isTx])
theorem strs_some : ∀ ks : List (List Nat), strs? (ks.map CV.str) = some ks
  | [] => rfl
  | k :: ks => by simp only [List.map_cons, strs?, strs_some ks, Option.map_some]
theorem cvT_toS (k : List Nat) : cvT (toS k) = .str k := by simp [cvT, toS]
theorem cvT_inj {a b : Str} (h : cvT a = cvT b) : a = b := by
  have : a.cps.toList = b.cps.toList := by simpa [cvT] using h
  rw [← toS_list a, ← toS_list b, this]
theorem insT_cv (ks : List Str) (k : Str) : (insT ks k).map cvT = insC (ks.map cvT) (cvT k) := by
  unfold insT insC
  by_cases h : k ∈ ks
  · rw [if_pos h, if_pos (List.mem_map.mpr ⟨k, h, rfl⟩)]
  · rw [if_neg h, if_neg fun z => h (by
      obtain ⟨j, hj, e⟩ := List.mem_map.mp z
      rw [← cvT_inj e]; exact hj)]
    rfl
theorem insAll_map : ∀ (xs ks : List Str), (insAll ks xs).map cvT = insAllC (ks.map cvT) (xs.map cvT)
  | [], _ => rfl
  | x :: xs, ks => by
    show (insAll (insT ks x) xs).map cvT = insAllC (insC (ks.map cvT) (cvT x)) (xs.map cvT)
    rw [insAll_map xs, insT_cv]
theorem insAll_cv (ks : List (List Nat)) : insAllC [] (ks.map CV.str) = (insAll [] (ks.map toS)).map fun k => CV.str k.cps.toList := by
  have := insAll_map (ks.map toS) []
  rw [List.map_map] at this
  have e : ks.map (cvT ∘ toS) = ks.map CV.str := List.map_congr_left fun k _ => cvT_toS k
  rw [e] at this
  exact this.symm
theorem in_all : ∀ {xs : List CV}, xs.all isIn = true → ∃ ks : List Int, xs = ks.map CV.int
  | [], _ => ⟨[], rfl⟩
  | x :: xs, h => by
    rw [List.all_cons, Bool.and_eq_true] at h
    obtain ⟨ks, rfl⟩ := in_all h.2
    cases x with
    | int k => exact ⟨k :: ks, rfl⟩
    | _ => exact absurd h.1 (by simp [isIn])
theorem ints_some : ∀ ks : List Int, ints? (ks.map CV.int) = some ks
  | [] => rfl
  | k :: ks => by simp only [List.map_cons, ints?, ints_some ks, Option.map_some]
theorem keyP_of {k : CV} {v : V} (w : RV X.K r H k v) (hk : leafK k = true) : ∃ k' : Key, k = ofKey k' ∧ v = kV k' := by
  cases w with
  | int i => exact ⟨.inl i, rfl, rfl⟩
  | str s => exact ⟨.inr (toS s), by simp [ofKey, toS], rfl⟩
  | _ => simp [leafK] at hk
theorem pairs_vs : ∀ {xs : List CV} {vs : List V} {ps : List (CV × CV)}, RVs X.K r H xs vs → pairs? xs = some ps → ps.all (fun p => leafK p.1) = true →
    ∃ (as : List Addr) (es : List (Key × V)), vs = as.map V.ref ∧ Paired (fun p kv => SqT X.K H p [kV kv.1, kv.2]) as es ∧ RKV X.K r H ps es
  | _, _, _, .nil, e, _ => by
    cases e
    exact ⟨[], [], rfl, .nil, .nil⟩
  | x :: xs, _, ps, .cons w t, e, hs => by
    unfold pairs? at e
    split at e
    · rename_i h; cases h
    · rename_i k y r' h
      cases h
      rw [Option.map_eq_some_iff] at e
      obtain ⟨ps, e, rfl⟩ := e
      rw [List.all_cons, Bool.and_eq_true] at hs
      obtain ⟨as, es, rfl, pr, d⟩ := pairs_vs t e hs.2
      cases w with | tup g us =>
      obtain ⟨v1, v2, rfl, u1, u2⟩ := us.two
      obtain ⟨k', rfl, rfl⟩ := keyP_of u1 hs.1
      exact ⟨_ :: as, (k', v2) :: es, rfl, .cons (SqT.of g) pr, .cons ⟨rfl, u2⟩ d⟩
    · cases e
theorem fold_K : ∀ {ps : List (CV × CV)} {es : List (Key × V)} {kvs : List (CV × CV)} {acc : List (Key × V)}, RKV X.K r H ps es → RKV X.K r H kvs acc → RKV X.K r H (ps.foldl (fun acc kv => dput acc kv.1 kv.2) kvs) (mergeK acc es)
  | _, _, _, _, .nil, d => d
  | p :: ps, e :: es, kvs, acc, .cons h t, d => by
    show RKV X.K r H (ps.foldl _ (dput kvs p.1 p.2)) (mergeK (putK acc e.1 e.2) es)
    refine fold_K t ?_
    rw [h.1]
    exact put_K d e.1 h.2
theorem bi_ok (hc : X.calm = true) (hu : X.A.units + 70 < cLine) (q : RH X.prog X.w X.K r h H) {f : Bi} (hf : ∀ t, f ≠ .isi t) {xs : List CV} {vs : List V} (u : RVs X.K r H xs vs) (e : biV f xs h = some (c, h')) (p : PostE X r H c h' Q) : wC X (biOf f) vs H Q := by
  unfold biV at e
  split at e
  · obtain ⟨v, rfl, w1⟩ := u.one
    split at e
    · split at e
      · rename_i hl
        cases e
        cases w1
        refine CallR.w call_len_str ⟨_, rfl, by rw [toS_len, ← lim_eq]; exact hl, ?_⟩
        rw [toS_len]; exact p.same q (.int _)
      · cases e
    · cases e
      cases w1 with | tup t us =>
      refine CallR.w call_len_seq ⟨_, _, rfl, .inr (SqT.of t), ?_⟩
      rw [← us.length]; exact p.same q (.int _)
    · cases e
      cases w1 with | @lst _ ns g =>
      refine CallR.w call_len_seq ⟨_, _, rfl, .inl g.sq, ?_⟩
      rw [show ((ns.map V.int).length : Int) = ((ns.map CV.int).length : Int) by simp]
      exact p.same q (.int _)
    · split at e
      · rename_i hm
        cases e
        cases w1 with | ref z =>
        obtain ⟨vs, g, us⟩ := q.ob _ _ _ hm z
        refine CallR.w call_len_seq ⟨_, _, rfl, .inl (SqL.of g), ?_⟩
        rw [← us.length]; exact p.same q (.int _)
      · rename_i hm
        cases e
        cases w1 with | ref z =>
        obtain ⟨o, vs, g, us⟩ := q.ob _ _ _ hm z
        refine CallR.w call_len_seq ⟨_, _, rfl, .inl (.inl (.inr ⟨o, g⟩)), ?_⟩
        rw [← us.length]; exact p.same q (.int _)
      · rename_i hm
        cases e
        cases w1 with | ref z =>
        exact len_dct (by omega) q hm z p
      · rename_i hm
        cases e
        cases w1 with | ref z =>
        obtain ⟨u, g, ⟨ks, rfl, rfl⟩ | ⟨ns, rfl, rfl, hn⟩⟩ := q.ob _ _ _ hm z
        · refine len_tx g ?_
          rw [List.length_map] at p
          exact p.same q (.int _)
        · refine len_si g hn ?_
          rw [List.length_map] at p
          exact p.same q (.int _)
      · cases e
    · cases e
  · rw [Option.map_eq_some_iff] at e
    obtain ⟨bs, e, e2⟩ := e
    cases e2
    rw [Option.bind_eq_some_iff] at e
    obtain ⟨ys, e1, e2⟩ := e
    obtain ⟨v, rfl, w1⟩ := u.one
    cases w1 with | ref z =>
    obtain ⟨vs, g, us, _⟩ := rdl_at q e1 z
    have := bools_vs us e2
    subst this
    exact CallR.w (cr_all hc) ⟨_, bs, rfl, g, p.same q (.bl _)⟩
  · rw [Option.map_eq_some_iff] at e
    obtain ⟨bs, e, e2⟩ := e
    cases e2
    rw [Option.bind_eq_some_iff] at e
    obtain ⟨ys, e1, e2⟩ := e
    obtain ⟨v, rfl, w1⟩ := u.one
    cases w1 with | ref z =>
    obtain ⟨vs, g, us, _⟩ := rdl_at q e1 z
    have := bools_vs us e2
    subst this
    exact CallR.w (cr_any hc) ⟨_, bs, rfl, g, p.same q (.bl _)⟩
  · rw [Option.map_eq_some_iff] at e
    obtain ⟨ys, e1, e2⟩ := e
    cases e2
    obtain ⟨v, rfl, w1⟩ := u.one
    obtain ⟨a, ws, rfl, us, g⟩ := items_at q w1 e1
    rcases g with ⟨g, _⟩ | ⟨g, rfl⟩
    · exact CallR.w call_tuple_of ⟨_, ws, rfl, .inl ⟨g, p.tup q us⟩⟩
    · exact CallR.w call_tuple_of ⟨_, ws, rfl, .inr ⟨g, p.same q w1⟩⟩
  · rw [Option.bind_eq_some_iff] at e
    obtain ⟨ys, e1, e2⟩ := e
    obtain ⟨rfl, rfl⟩ := newc_eq e2
    obtain ⟨v, rfl, w1⟩ := u.one
    obtain ⟨a, ws, rfl, us, g⟩ := items_at q w1 e1
    exact CallR.w call_list_of ⟨_, ws, rfl, g.imp (·.1) (·.1), p.lst q us⟩
  · cases e
    obtain ⟨v, rfl, w1⟩ := u.one
    cases w1
    exact CallR.w call_int1 (.inl ⟨_, rfl, p.same q (.int _)⟩)
  · cases e
    obtain ⟨v, rfl, w1⟩ := u.one
    cases w1
    exact CallR.w call_int1 (.inr ⟨_, rfl, p.same q (.int _)⟩)
  · cases e
    obtain ⟨v, rfl, w1⟩ := u.one
    cases w1
    exact CallR.w call_abs ⟨_, rfl, p.same q (.int _)⟩
  · split at e
    · rename_i hl
      cases e
      obtain ⟨v, w, rfl, u1, u2⟩ := u.two
      cases u1; cases u2
      exact CallR.w call_divmod ⟨_, _, rfl, hl, p.tup q (.cons (.int _) (.cons (.int _) .nil))⟩
    · cases e
  · cases e
    obtain ⟨v, w, rfl, u1, u2⟩ := u.two
    cases u1; cases u2
    exact CallR.w (call_min2 hc) ⟨_, _, rfl, p.same q (.int _)⟩
  · cases e
    obtain ⟨v, w, rfl, u1, u2⟩ := u.two
    cases u1; cases u2
    exact CallR.w (call_max2 hc) ⟨_, _, rfl, p.same q (.int _)⟩
  · rw [Option.map_eq_some_iff] at e
    obtain ⟨bs, e, e2⟩ := e
    cases e2
    rw [Option.bind_eq_some_iff] at e
    obtain ⟨ys, e1, e2⟩ := e
    obtain ⟨v, rfl, w1⟩ := u.one
    cases w1 with | ref z =>
    obtain ⟨vs, g, us, _⟩ := rdl_at q e1 z
    have := ints_vs us e2
    subst this
    exact CallR.w (cr_sum hc) ⟨_, bs, rfl, g, p.same q (.int _)⟩
  · exact absurd rfl (hf _)
  · rw [Option.bind_eq_some_iff] at e
    obtain ⟨ys, e1, e2⟩ := e
    rw [Option.bind_eq_some_iff] at e2
    obtain ⟨ds, e2, e3⟩ := e2
    split at e3
    · rename_i hs
      obtain ⟨rfl, hs⟩ := hs
      obtain ⟨rfl, rfl⟩ := newc_eq e3
      obtain ⟨v, rfl, w1⟩ := u.one
      unfold iterable at e1
      split at e1
      · cases e1
        cases w1 with | tup t us =>
        exact sorted_seq hu q (.inr (SqT.of t)) us e2 hs fun a ws ha w => p.lst q w a ha
      · cases w1 with | ref z =>
        split at e1
        · rename_i hm
          cases e1
          obtain ⟨vs, g, us⟩ := q.ob _ _ _ hm z
          exact sorted_seq hu q (.inl (SqL.of g)) us e2 hs fun a ws ha w => p.lst q w a ha
        · rename_i hm
          cases e1
          obtain ⟨o, vs, g, us⟩ := q.ob _ _ _ hm z
          exact sorted_seq hu q (.inl (.inl (.inr ⟨o, g⟩))) us e2 hs fun a ws ha w => p.lst q w a ha
        · rename_i hm
          cases e1
          obtain ⟨u, g, d⟩ := q.ob _ _ _ hm z
          exact sorted_dct hc hu g d hs fun a ws ha w => p.lst q w a ha
        · rename_i hm
          split at e1
          · rename_i hall
            cases e1
            obtain ⟨u, g, ⟨ks, rfl, rfl⟩ | ⟨ns, rfl, rfl, hn⟩⟩ := q.ob _ _ _ hm z
            · exact sorted_tx hc hu g fun a ws ha w => p.lst q w a ha
            · cases ns with
              | nil => exact sorted_si0 hc g fun a ha => p.lst q (by rw [List.map_nil, List.mergeSort_nil]; exact .nil) a ha
              | cons n ns => simp [isTxt] at hall
          · cases e1
        · cases e1
      · cases e1
    · cases e3
  · rw [Option.bind_eq_some_iff] at e
    obtain ⟨ys, e1, e2⟩ := e
    split at e2
    · rename_i hs
      obtain ⟨rfl, rfl⟩ := newc_eq e2
      obtain ⟨v, rfl, w1⟩ := u.one
      obtain ⟨b, ws, rfl, t, g⟩ := items_at q w1 e1
      obtain ⟨ks, rfl⟩ := tx_all hs.1
      have e3 := strs_vs t (strs_some ks)
      subst e3
      refine set_call hc (g.imp (·.1) (·.1)) (by simp only [List.length_map] at hs ⊢; exact Nat.lt_of_le_of_lt (Nat.succ_le_succ hs.2) (by decide)) fun a ha => ?_
      refine p _ (r ++ [a]) _ (Step.cell ha) (q.cell ha ⟨_, upd_same, .inl ⟨insAll [] (ks.map toS), rfl, ?_⟩⟩) ?_
      · rw [insAll_cv]
      · refine .ref ?_
        rw [q.len, List.getElem?_append_right (Nat.le_refl _), Nat.sub_self]
        rfl
    · split at e2
      · rename_i hs
        obtain ⟨rfl, rfl⟩ := newc_eq e2
        obtain ⟨v, rfl, w1⟩ := u.one
        obtain ⟨b, ws, rfl, t, g⟩ := items_at q w1 e1
        obtain ⟨ns, rfl⟩ := in_all hs.1
        have e3 := ints_vs t (ints_some ns)
        subst e3
        have hnd : ns.Nodup := (List.pairwise_map.mp hs.2.1).imp fun z e => z (by rw [e])
        have hl : ns.length ≤ 4000 := by simpa using hs.2.2.1
        have g3 : SqT X.K H b (ns.map V.int) := by
          rcases g with ⟨_, n, rfl⟩ | g
          · exact absurd hs.2.2.2 (by simp [isTp])
          · exact g.1
        refine set_callI hc g3 hnd hl fun a ha => ?_
        refine p _ (r ++ [a]) _ (Step.cell ha) (q.cell ha ⟨_, upd_same, .inr ⟨ns, rfl, rfl, hl⟩⟩) ?_
        refine .ref ?_
        rw [q.len, List.getElem?_append_right (Nat.le_refl _), Nat.sub_self]
        rfl
      · cases e2
  · rw [Option.bind_eq_some_iff] at e
    obtain ⟨ys, e1, e2⟩ := e
    rw [Option.bind_eq_some_iff] at e2
    obtain ⟨ps, e2, e3⟩ := e2
    split at e3
    · rename_i hs
      obtain ⟨rfl, rfl⟩ := newc_eq e3
      obtain ⟨v, rfl, w1⟩ := u.one
      cases w1 with | ref z =>
      obtain ⟨vs, g, us, _⟩ := rdl_at q e1 z
      obtain ⟨as, es, rfl, pr, d⟩ := pairs_vs us e2 hs
      refine CallR.w (call_dictP hc) ⟨_, as, es, rfl, g, pr, fun a ha => ?_⟩
      refine p _ (r ++ [a]) _ (Step.cell ha) (q.cell ha ⟨_, upd_same, .inl ⟨_, rfl, ?_⟩⟩) ?_
      · exact Paired.mapP (fold_K d .nil) fun _ _ z => ⟨z.1, z.2.step q (Step.cell ha)⟩
      · refine .ref ?_
        rw [q.len, List.getElem?_append_right (Nat.le_refl _), Nat.sub_self]
        rfl
    · cases e3
  · rw [Option.bind_eq_some_iff] at e
    obtain ⟨ys, e1, e2⟩ := e
    rw [Option.bind_eq_some_iff] at e2
    obtain ⟨ds, e2, e3⟩ := e2
    split at e3
    · rename_i hs
      obtain ⟨rfl, hs⟩ := hs
      cases ds with
      | nil => cases e3
      | cons x xs =>
        cases e3
        obtain ⟨v, rfl, w1⟩ := u.one
        cases w1 with | ref z =>
        obtain ⟨vs, g, us, _⟩ := rdl_at q e1 z
        exact min_seq hc hu q g us e2 hs fun v rv => p.same q rv
    · cases e3
  · cases e
end
end TH

/-! Methods by values. -/
namespace TH
open PySem PySem.Spec PyProof.Rows L2
section
variable {X : Cx} {r : Ren} {H : Hp} {h h' : CH} {c : CV} {Q : VK}
/-- the value is of the type T -/
def tyW (X : Cx) (T : String) (x : V) (H : Hp) : Prop := ∀ (pins : List (Addr × Obj)) (σ : L2.St) (s : Shared) (v : Value), Inv X pins σ H s → RelV x v → s.TypeIs v T ∧ ∀ a, v = .ref a → ∃ ob, s.heap.get? a = some ob ∧ ob.dict = none
theorem tyW_of {T : String} {x : V} (t : tyV X.K T x H) : tyW X T x H := fun _ _ _ _ I rv => tyV_is I rv t
/-- which built-in a method is, by its receiver's type -/
structure MId (T : String) (name : Str) (id : String) : Prop where
  pa : PlainAttrs T
  slot : Slot T name id
  ty : typeOf (.builtin id) = pure (.type "method_descriptor")
def meT : Me → String
  | .append | .extend | .pop | .remove | .index | .count => "list"
  | .get | .setdefault => "dict"
  | .join | .partition | .split | .upper => "str"
def meN : Me → String
  | .append => "append" | .extend => "extend" | .pop => "pop" | .remove => "remove" | .index => "index" | .count => "count" | .get => "get" | .setdefault => "setdefault"
  | .join => "join" | .partition => "partition" | .split => "split" | .upper => "upper"
def meI : Me → String
  | .append => "list.append" | .extend => "list.extend" | .pop => "list.pop" | .remove => "list.remove" | .index => "list.index" | .count => "list.count" | .get => "dict.get" | .setdefault => "dict.setdefault"
  | .join => "str.join" | .partition => "str.partition" | .split => "str.split" | .upper => "str.upper"
theorem meId0 (m : Me) : MId (meT m) (Str.ofString (meN m)) (meI m) := by
  cases m
  · exact ⟨PySem.F.plainAttrs_list, PySem.F.slot_list_append, PySem.F.type_list_append⟩
  · exact ⟨PySem.F.plainAttrs_dict, PySem.F.slot_dict_get, PySem.F.type_dict_get⟩
  · exact ⟨PySem.F.plainAttrs_dict, PySem.F.slot_dict_setdefault, PySem.F.type_dict_setdefault⟩
  · exact ⟨PySem.F.plainAttrs_list, PySem.F.slot_list_pop, PySem.F.type_list_pop⟩
  · exact ⟨PySem.F.plainAttrs_list, PySem.F.slot_list_remove, PySem.F.type_list_remove⟩
  · exact ⟨PySem.F.plainAttrs_list, PySem.F.slot_list_index, PySem.F.type_list_index⟩
  · exact ⟨PySem.F.plainAttrs_list, PySem.F.slot_list_count, PySem.F.type_list_count⟩
  · exact ⟨PySem.F.plainAttrs_list, PySem.F.slot_list_extend, PySem.F.type_list_extend⟩
  · exact ⟨PySem.F.plainAttrs_str, PySem.F.slot_str_join, PySem.F.type_str_join⟩
  · exact ⟨PySem.F.plainAttrs_str, PySem.F.slot_str_partition, PySem.F.type_str_partition⟩
  · exact ⟨PySem.F.plainAttrs_str, PySem.F.slot_str_split, PySem.F.type_str_split⟩
  · exact ⟨PySem.F.plainAttrs_str, PySem.F.slot_str_upper, PySem.F.type_str_upper⟩
/-- by what it is asked of: a tuple's index, count -/
def meT2 : Me → CV → String
  | .index, .tup _ => "tuple"
  | .count, .tup _ => "tuple"
  | m, _ => meT m
def meI2 : Me → CV → String
  | .index, .tup _ => "tuple.index"
  | .count, .tup _ => "tuple.count"
  | m, _ => meI m
theorem meId (m : Me) (o : CV) : MId (meT2 m o) (Str.ofString (meN m)) (meI2 m o) := by
  cases m
  case index =>
    cases o
    case tup => exact ⟨PySem.F.plainAttrs_tuple, PySem.F.slot_tuple_index, PySem.F.type_tuple_index⟩
    all_goals exact meId0 .index
  case count =>
    cases o
    case tup => exact ⟨PySem.F.plainAttrs_tuple, PySem.F.slot_tuple_count, PySem.F.type_tuple_count⟩
    all_goals exact meId0 .count
  case append => exact meId0 .append
  case get => exact meId0 .get
  case setdefault => exact meId0 .setdefault
  case pop => exact meId0 .pop
  case remove => exact meId0 .remove
  case extend => exact meId0 .extend
  case join => exact meId0 .join
  case partition => exact meId0 .partition
  case split => exact meId0 .split
  case upper => exact meId0 .upper
abbrev tMe (X : Cx) (name : Str) (to : TE) (t : TA) : TE := fun σ H Q => to σ H fun x H1 => ∃ T id, MId T name id ∧ tyW X T x H1 ∧ t σ H1 fun xs H2 => wM X id x xs H2 Q
/-- o.m(), o.m(e, ..), any built-in method -/
theorem pe_mw0 {o : Expr} {name : Str} {apos cpos : Pos} {to : TE} (ho : PE X o to) (hbase : attributeBase o name X.env (eval o X.env) = eval o X.env) (hline : (apos.endLine == cpos.line) = true) : PE X (.Call (.Attribute o name apos) [] [] cpos) (tMe X name to tNil) := by
  refine ⟨fun pins s σ H Q I h => ?_⟩
  refine wpAny_Call_method0_late hbase hline (thn (ho.run pins s σ H _ I h) fun v s1 ⟨x, H1, I1, r1, T, id, m, ty, q1⟩ => ?_)
  obtain ⟨h1, h2⟩ := ty _ _ _ _ I1 r1
  exact ⟨T, id, m.pa, m.slot, m.ty, h1, h2, Calls.callWith_builtin rfl (PySem.evalArgs_none (q1 pins s1 σ v [] I1 r1 .nil))⟩
theorem pe_mw {o e : Expr} {es : List Expr} {name : Str} {apos cpos : Pos} {to : TE} {t : TA} (ho : PE X o to) (ha : PA X (e :: es) t)
    (hbase : attributeBase o name X.env (eval o X.env) = eval o X.env)
    (hfew : ((backTo cpos (starEach (e :: es) X.env)).all (fun x => !x.1) && (backToKw cpos (keywordEach [] X.env)).all (fun x => x.1.isSome)
      && decide ((e :: es).length + ([] : List Keyword).length + (if ([] : List Keyword).isEmpty then 0 else 1) < 30)) = true)
    (hline : (apos.endLine == cpos.line) = true) (hs : starEach (e :: es) X.env = (false, eval e X.env) :: starEach es X.env) (hplain : (backTo cpos (starEach es X.env)).any (·.1) = false) :
    PE X (.Call (.Attribute o name apos) (e :: es) [] cpos) (tMe X name to t) := by
  refine ⟨fun pins s σ H Q I h => ?_⟩
  refine wpAny_Call_method_late hbase hfew hline rfl (thn (ho.run pins s σ H _ I h) fun v s1 ⟨x, H1, I1, r1, T, id, m, ty, q1⟩ => ?_)
  obtain ⟨h1, h2⟩ := ty _ _ _ _ I1 r1
  refine ⟨T, id, m.pa, m.slot, m.ty, h1, h2, ?_⟩
  have hA := ha.run cpos pins s1 σ H1 _ I1 q1
  rw [hs] at hA ⊢
  refine Calls.callWith_builtin (by show (false || (backTo cpos (starEach es X.env)).any (·.1)) = false; rw [hplain] <;> rfl) (Calls.evalArgs_plain ?_)
  exact thn hA fun us s2 ⟨vs, H2, I2, r2, q2⟩ => q2 pins s2 σ v us I2 r1 r2
theorem recv_ty (q : RH X.prog X.w X.K r h H) {m : Me} {o : CV} {x : V} (u : RV X.K r H o x) (e : recvOk m o h = true) : tyW X (meT2 m o) x H := by
  have lst : ∀ {n : Nat} {xs : List CV}, o = .ref n → h[n]? = some (.lst xs) → tyW X "list" x H := by
    intro n xs e1 hm
    subst e1
    cases u with | ref z =>
    obtain ⟨vs, g, _⟩ := q.ob _ _ _ hm z
    exact tyW_of (.inl ⟨rfl, vs, SqL.of g⟩)
  have dct : ∀ {a : Addr} {kvs : List (CV × CV)} {u : HO}, RD X.K r H kvs u → Rd H a u → tyW X "dict" (.ref a) H := by
    intro a kvs u d g pins σ s v I rv
    cases rv
    have hd : IsD H a := by
      rcases d with ⟨es, rfl, _⟩ | ⟨es, rfl, _⟩
      · exact .inl ⟨es, g⟩
      · exact .inr ⟨es, g⟩
    obtain ⟨h1, h2, _⟩ := isD_at I hd
    exact ⟨h1, h2⟩
  have str : ∀ {t : List Nat}, o = .str t → tyW X "str" x H := by
    intro t e1
    subst e1
    cases u
    exact tyW_of rfl
  have frz : ∀ {n : Nat} {xs : List CV}, o = .ref n → h[n]? = some (.frz xs) → tyW X "list" x H := by
    intro n xs e1 hm
    subst e1
    cases u with | ref z =>
    obtain ⟨o, vs, g, _⟩ := q.ob _ _ _ hm z
    exact tyW_of (.inl ⟨rfl, vs, .inl (.inr ⟨o, g⟩)⟩)
  unfold recvOk at e
  split at e
  · split at e
    · exact lst rfl (by assumption)
    · cases e
  · split at e
    · exact lst rfl (by assumption)
    · cases e
  · split at e
    · exact lst rfl (by assumption)
    · cases e
  · split at e
    · exact lst rfl (by assumption)
    · cases e
  · split at e
    · exact lst rfl (by assumption)
    · exact frz rfl (by assumption)
    · cases e
  · split at e
    · exact lst rfl (by assumption)
    · exact frz rfl (by assumption)
    · cases e
  · split at e
    · rename_i hm
      cases u with | ref z =>
      obtain ⟨u, g, d⟩ := q.ob _ _ _ hm z
      exact dct d (.inl g)
    · rename_i hm
      cases u with | ref z =>
      obtain ⟨o, u, g, d⟩ := q.ob _ _ _ hm z
      exact dct d (.inr ⟨o, g⟩)
    · cases e
  · split at e
    · rename_i hm
      cases u with | ref z =>
      obtain ⟨u, g, d⟩ := q.ob _ _ _ hm z
      exact dct d (.inl g)
    · cases e
  · exact str rfl
  · exact str rfl
  · exact str rfl
  · exact str rfl
  · cases e
/-- d.setdefault(k, x), a dict of either kind -/
theorem d_setdC {pins : List (Addr × Obj)} {σ : L2.St} {s : Shared} {a : Addr} {u rr : Value} {y d : V} {ov : Option V} {H' : Hp} {Q : Value → Shared → Prop} (hu : X.A.units + 1 < cLine) (I : Inv X pins σ H s) (g : DGet H a y ov) (gp : DPut H a y d H') (ry : RelV y u) (rd : RelV d rr)
    (h1 : ∀ v, ov = some v → ∀ (w' : Value) (s' : Shared), Inv X pins σ H s' → RelV v w' → Q w' s') (h2 : ov = none → ∀ (w' : Value) (s' : Shared), Inv X pins σ H' s' → RelV d w' → Q w' s') :
    wpAny (model X.prog X.w) X.A (call (.builtin "dict.setdefault") [.ref a, u, rr]) Q X.xe s := by
  rcases gp with ⟨kvs, k, e, ey, l, eH⟩ | ⟨kvs, k, b, e, ey, eb, l, eH⟩
  · subst ey eH
    rcases g with ⟨kvs', k', e', ey', eo⟩ | ⟨_, _, b', e', _⟩
    · have : kvs' = kvs ∧ k' = k := by
        refine ⟨?_, (kV_inj ey').symm⟩
        rcases e' with e' | ⟨_, e'⟩ <;> rw [e] at e' <;> cases e'
        rfl
      obtain ⟨rfl, rfl⟩ := this
      subst eo
      exact d_setd I e ry rd l h1 h2
    · rcases e' with e' | ⟨_, e'⟩ <;> rw [e] at e' <;> cases e'
  · subst ey eH
    rcases g with ⟨_, _, e', _⟩ | ⟨kvs', k', b', e', ey', eb', eo⟩
    · rcases e' with e' | ⟨_, e'⟩ <;> rw [e] at e' <;> cases e'
    · have hk : kvs' = kvs := by
        rcases e' with e' | ⟨_, e'⟩ <;> rw [e] at e' <;> cases e'
        rfl
      subst hk
      cases ey'
      have hk2 : k' = k := by
        have z := HO.tup.inj (Option.some.inj (eb.symm.trans eb'))
        exact (kVs_inj z).symm
      subst hk2
      cases (show u = Value.ref b from ry)
      obtain ⟨z, hd, xs, rel, dd⟩ := dt_of I.hok e
      have hz : xs.length ≤ sizeLine := by rw [← Paired.length rel]; exact z
      have hl : (putK kvs' k' d).length ≤ sizeLine := by have := length_putK kvs' k' d; omega
      have val := rel.val k'
      refine call_setdefault_heap (hsz := hz) (tupleKind_room_in1 hu) (key_of I.hok eb) hd dd (fun p hp => ?_) fun hn h' dd' hs => ?_
      · rw [hp] at val
        cases q0 : valV kvs' k' with
        | none => rw [q0] at val; exact False.elim val
        | some v0 =>
          rw [q0] at val
          exact h1 v0 (eo.trans q0) _ _ (I.tok _) val
      · rw [hn] at val
        cases q0 : valV kvs' k' with
        | some v0 => rw [q0] at val; exact False.elim val
        | none =>
          obtain ⟨qq, es, ep, hq, g2, g3, g4, _, g5⟩ := dd'
          refine h2 (eo.trans q0) _ _ (d_write I (by rw [e]; exact True.intro) hs ⟨qq, hq⟩ ⟨hl, hd, _, (rel.put k' eb rd).keeps fun c ys ec => ?_, qq, es, ep, hq, g2, g3, g4, g5⟩) rd
          rw [upd_ne (ne_of ec e (fun z => nomatch z))]
          exact ec
theorem joinS_len (S : List Nat) : ∀ ys : List (List Nat), ys ≠ [] → (joinS S ys).length + S.length = (ys.map (·.length)).sum + ys.length * S.length
  | [], h => absurd rfl h
  | [x], _ => by simp [joinS]
  | x :: y :: r, _ => by
    have ih := joinS_len S (y :: r) (by simp)
    simp only [joinS, List.length_append, List.map_cons, List.sum_cons, List.length_cons, Nat.succ_mul] at ih ⊢
    omega
theorem join_toS (s : List Nat) : ∀ ys : List (List Nat), Txt.join (toS s) (ys.map toS) = toS (joinS s ys) := by
  intro ys
  rw [TL.join_eq]
  induction ys with
  | nil => rfl
  | cons x ys ih =>
    cases ys with
    | nil => rfl
    | cons y r =>
      simp only [List.map_cons, Str.join, joinS] at ih ⊢
      rw [ih, toS_app, toS_app]
theorem upperOf_small : ∀ c : Nat, c < 128 → Unicode.upperOf c = [upC c] := by
  intro c hc
  have : ∀ c : Fin 128, Unicode.upperOf c.val = [upC c.val] := by decide +kernel
  exact this ⟨c, hc⟩
theorem upper_toS {s : List Nat} (h : s.all (fun c => decide (c < 128)) = true) : Txt.upper (toS s) = toS (s.map upC) := by
  unfold Txt.upper toS PySem.placed
  congr 1
  apply Array.toList_inj.mp
  rw [Array.toList_flatten]
  simp only [Array.toList_mapIdx]
  have key : ∀ (l : List Nat) (f : Nat → Nat → Array Nat), (∀ i c, c ∈ l → f i c = #[upC c]) → ((l.mapIdx f).map Array.toList).flatten = l.map upC := by
    intro l
    induction l with
    | nil => intro f _; simp
    | cons a l ih =>
      intro f hf
      rw [List.mapIdx_cons, List.map_cons, List.flatten_cons, hf 0 a List.mem_cons_self, ih _ fun i c hc => hf (i + 1) c (List.mem_cons_of_mem _ hc)]
      rfl
  rw [key s _ fun i c hc => by
    rw [List.all_eq_true] at h
    rw [upperOf_small c (by simpa using h c hc)]]
theorem par_partS (c : Nat) : ∀ (l acc : List Nat), TL.par [c] acc l = partS [c] acc l
  | [], acc => by simp [TL.par, partS, isPre]
  | d :: l, acc => by
    simp only [TL.par, partS, par_partS c l]
    rfl
theorem part_toS (s : List Nat) (c : Nat) : Txt.partition (toS s) (toS [c]) = match partS [c] [] s with
    | some (a, b) => (toS a, toS [c], toS b)
    | none => (toS s, toS [], toS []) := by
  rw [TL.partition_par _ _ (by simp [TL.tl, toS])]
  rw [show TL.tl (toS [c]) = [c] from rfl, show TL.tl (toS s) = s from by simp [TL.tl, toS], par_partS]
  cases partS [c] [] s with
  | none => rfl
  | some p => rfl
theorem spl_splitC (c : Nat) : ∀ (l acc : List Nat), TL.spl [c] 0 acc l = (match splitC c l with | [] => [acc] | w :: ws => (acc ++ w) :: ws)
  | [], acc => by simp [TL.spl, splitC]
  | d :: l, acc => by
    have hne : splitC c l ≠ [] := by
      cases l with
      | nil => simp [splitC]
      | cons e l => simp only [splitC]; split
                    · simp
                    · split <;> simp
    by_cases h : d = c
    · subst h
      rw [TL.spl_hit (by simp [TL.pre])]
      simp only [List.length_cons, List.length_nil, Nat.zero_add, Nat.sub_self]
      rw [spl_splitC d l]
      have e2 : splitC d (d :: l) = [] :: splitC d l := by simp [splitC]
      rw [e2]
      cases e : splitC d l with
      | nil => exact absurd e hne
      | cons w ws => simp
    · rw [TL.spl_miss (by simp [TL.pre, h]), spl_splitC c l]
      have e2 : splitC c (d :: l) = (match splitC c l with | [] => [[d]] | w :: ws => (d :: w) :: ws) := by simp only [splitC, h, if_false] <;> rfl
      rw [e2]
      cases e : splitC c l with
      | nil => exact absurd e hne
      | cons w ws => simp
theorem split_toS (s : List Nat) {c : Nat} (hc : c < 256) : Txt.split (toS s) (toS [c]) = (splitC c s).map toS := by
  apply TL.map_tl_inj
  rw [TL.split_spl _ _ (by simp [TL.tl, toS]) (TL.kind_ok (by simp [toS, hc]))]
  rw [show TL.tl (toS [c]) = [c] from rfl, show TL.tl (toS s) = s from by simp [TL.tl, toS], spl_splitC, List.map_map]
  have hid : (splitC c s).map (TL.tl ∘ toS) = splitC c s := by
    rw [show (TL.tl ∘ toS) = id from by funext l; simp [TL.tl, toS]]
    simp
  rw [hid]
  cases e : splitC c s with
  | nil =>
    exfalso
    cases s with
    | nil => simp [splitC] at e
    | cons d l =>
      simp only [splitC] at e
      split at e
      · cases e
      · split at e <;> cases e
  | cons w ws => rfl
theorem find_pds {d : CV} (hd : nref d = true) : ∀ {zs : List CV}, nrefs zs = true → (pds zs).findIdx? (fun z => PyData.eqv z (pd d)) = zs.findIdx? fun z => ceq z d
  | [], _ => rfl
  | z :: zs, h => by
    simp only [nrefs, Bool.and_eq_true] at h
    simp only [pds, List.findIdx?_cons, ceq_pd z d h.1 hd, find_pds hd h.2]
theorem count_pds {d : CV} (hd : nref d = true) : ∀ {zs : List CV}, nrefs zs = true → (pds zs).countP (fun z => PyData.eqv z (pd d)) = zs.countP fun z => ceq z d
  | [], _ => rfl
  | z :: zs, h => by
    simp only [nrefs, Bool.and_eq_true] at h
    simp only [pds, List.countP_cons, ceq_pd z d h.1 hd, count_pds hd h.2]
/-- the data of a search -/
theorem find_data (q : RH X.prog X.w X.K r h H) {v : CV} {xs : List CV} {x : V} {vs : List V} (us : RVs X.K r H xs vs) (u : RV X.K r H v x) {j : Nat} (e : eqFst h v xs = some (some j)) :
    ∃ ds d, DpAll X.K H vs ds ∧ Dp X.K H x d ∧ PyData.plainAll ds = true ∧ d.plain = true ∧ d.depth ≤ 20 ∧ PySem.SeqAt.dataPlace ds d = some j := by
  unfold eqFst at e
  rw [Option.bind_eq_some_iff] at e
  obtain ⟨d, e1, e2⟩ := e
  rw [Option.bind_eq_some_iff] at e2
  obtain ⟨zs, e2, e3⟩ := e2
  obtain ⟨a1, b1, c1⟩ := den_ok q _ _ _ _ e1 u
  obtain ⟨a2, b2, c2⟩ := dens_ok q _ _ _ _ e2 us
  refine ⟨pds zs, pd d, a2, a1, plain_pds _, plain_pd _, c1, ?_⟩
  show (pds zs).findIdx? _ = _
  rw [find_pds b1 b2]
  exact Option.some.inj e3
theorem remove_d (hu : X.A.units + 70 < cLine) {a : Addr} {x : V} {vs : List V} {ds : List PyData} {d : PyData} {j : Nat} (g : H a = some (.lst vs)) (h1 : DpAll X.K H vs ds) (h2 : Dp X.K H x d) (h3 : PyData.plainAll ds = true) (h4 : d.plain = true) (h5 : d.depth ≤ 20) (hp : PySem.SeqAt.dataPlace ds d = some j)
    (post : Q .non (upd H a (.lst (vs.eraseIdx j)))) : wM X "list.remove" (.ref a) [x] H Q := by
  intro pins s σ v us I rx rxs
  cases rx
  obtain ⟨u, rfl, ru⟩ := rxs.one
  obtain ⟨z, its, n, rv, hl, e⟩ := I.lstM g
  obtain ⟨as, r1⟩ := Dp.readsAll I ds vs its h1 rv
  obtain ⟨bs, r2⟩ := Dp.reads I d x u h2 ru
  have hmin := Nat.min_le_right (PyData.depthAll ds) d.depth
  refine PySem.SeqAt.remove_list_data (vs := its.toArray) ⟨_, e, rfl, n, rfl⟩ r1 r2 h3 h4 (by omega) hp (by rw [List.size_toArray, ← hl]; exact z) ?_
  refine ⟨.non, _, I.lset (its' := its.eraseIdx j) (t' := s.toks) g e ?_ (rv.eraseIdx j) ?_, rfl, post⟩
  · show its.toArray.eraseIdxIfInBounds j = (its.eraseIdx j).toArray
    rw [List.eraseIdxIfInBounds_toArray]
  · have := List.length_eraseIdx_le vs j
    omega
theorem index_d (hu : X.A.units + 70 < cLine) {a : Addr} {x : V} {vs : List V} {ds : List PyData} {d : PyData} {j : Nat} (h1 : DpAll X.K H vs ds) (h2 : Dp X.K H x d) (h3 : PyData.plainAll ds = true) (h4 : d.plain = true) (h5 : d.depth ≤ 20) (hp : PySem.SeqAt.dataPlace ds d = some j)
    (post : Q (.int (j : Nat)) H) : (SqL X.K H a vs → wM X "list.index" (.ref a) [x] H Q) ∧ (SqT X.K H a vs → wM X "tuple.index" (.ref a) [x] H Q) := by
  have hmin := Nat.min_le_right (PyData.depthAll ds) d.depth
  constructor
  · intro g pins s σ v us I rx rxs
    cases rx
    obtain ⟨u, rfl, ru⟩ := rxs.one
    obtain ⟨its, rv, ⟨⟨cls, dd, data, sl⟩, n, ho, hc, hdn, hd⟩, hz⟩ := I.list g
    simp only at hc hd
    subst hc hd
    obtain ⟨as, r1⟩ := Dp.readsAll I ds vs its h1 rv
    obtain ⟨bs, r2⟩ := Dp.reads I d x u h2 ru
    obtain ⟨hj, hit, hno⟩ := PySem.SeqAt.hit_at (vs := its.toArray) r1 h3 hp
    have hsz : its.toArray.size ≤ sizeLine := by rw [List.size_toArray, ← rv.length]; exact hz
    rw [sizeLine_eq] at hsz
    exact call_meets PySem.F.slot_list_index ⟨_, ho, rfl⟩ PySem.F.entry_list_index (PySem.F.args_list_index_2 _ _) (PySem.SeqAt.list_indexAt a its.toArray n dd sl u _ j hj (by omega) hit hno)
      ⟨ho, PySem.SeqAt.items_plain r1 r2 h3 h4 (by omega), ⟨.int (j : Nat), H, I.tok _, ⟨_, rfl⟩, post⟩⟩
  · intro g pins s σ v us I rx rxs
    cases rx
    obtain ⟨u, rfl, ru⟩ := rxs.one
    obtain ⟨its, rv, ⟨⟨cls, dd, data, sl⟩, ho, hc, n, hd⟩, hz⟩ := I.tuple g
    simp only at hc hd
    subst hc hd
    obtain ⟨as, r1⟩ := Dp.readsAll I ds vs its h1 rv
    obtain ⟨bs, r2⟩ := Dp.reads I d x u h2 ru
    obtain ⟨hj, hit, hno⟩ := PySem.SeqAt.hit_at (vs := its.toArray) r1 h3 hp
    exact call_meets PySem.F.slot_tuple_index ⟨_, ho, rfl⟩ PySem.F.entry_tuple_index (PySem.F.args_tuple_index_2 _ _) (TI.tuple_indexAt a its.toArray n dd sl u _ j hj hit hno)
      ⟨ho, PySem.SeqAt.items_plain r1 r2 h3 h4 (by omega), ⟨.int (j : Nat), H, I.tok _, ⟨_, rfl⟩, post⟩⟩
theorem count_d (hu : X.A.units + 70 < cLine) {a : Addr} {x : V} {vs : List V} {ds : List PyData} {d : PyData} (h1 : DpAll X.K H vs ds) (h2 : Dp X.K H x d) (h3 : PyData.plainAll ds = true) (h4 : d.plain = true) (h5 : d.depth ≤ 20)
    (post : Q (.int ((ds.countP fun z => PyData.eqv z d : Nat) : Int)) H) : (SqL X.K H a vs → wM X "list.count" (.ref a) [x] H Q) ∧ (SqT X.K H a vs → wM X "tuple.count" (.ref a) [x] H Q) := by
  have hmin := Nat.min_le_right (PyData.depthAll ds) d.depth
  constructor
  · intro g pins s σ v us I rx rxs
    cases rx
    obtain ⟨u, rfl, ru⟩ := rxs.one
    obtain ⟨its, rv, p, hz⟩ := I.list g
    obtain ⟨as, r1⟩ := Dp.readsAll I ds vs its h1 rv
    obtain ⟨bs, r2⟩ := Dp.reads I d x u h2 ru
    exact PySem.SeqAt.count_list_data p.isList r1 r2 h3 h4 (by omega) ⟨.int _, H, I.tok _, ⟨_, rfl⟩, post⟩
  · intro g pins s σ v us I rx rxs
    cases rx
    obtain ⟨u, rfl, ru⟩ := rxs.one
    obtain ⟨its, rv, p, hz⟩ := I.tuple g
    obtain ⟨as, r1⟩ := Dp.readsAll I ds vs its h1 rv
    obtain ⟨bs, r2⟩ := Dp.reads I d x u h2 ru
    exact PySem.SeqAt.count_tuple_data p r1 r2 h3 h4 (by omega) ⟨.int _, H, I.tok _, ⟨_, rfl⟩, post⟩
theorem me_ok (hu : X.A.units + 70 < cLine) (q : RH X.prog X.w X.K r h H) {m : Me} {o : CV} {xs : List CV} {x : V} {vs : List V} (u : RV X.K r H o x) (us : RVs X.K r H xs vs) (e : meV m o xs h = some (c, h')) (p : PostE X r H c h' Q) : wM X (meI2 m o) x vs H Q := by
  unfold meV at e
  split at e
  · split at e
    · rename_i hn
      split at e
      · rename_i hl
        cases e
        cases u with | ref z =>
        obtain ⟨v, rfl, w⟩ := us.one
        obtain ⟨ws, g, t⟩ := q.ob _ _ _ hn z
        have nf : ∀ (o : Obj) (v : HO), H _ ≠ some (.frz o v) := fun o v y => by rw [g] at y; cases y
        refine MtR.w mt_append ⟨_, ws, v, rfl, rfl, g, by rw [← t.length, ← lim_eq]; exact hl, p _ r _ (Step.write z nf) (q.write z nf ⟨_, upd_same, ?_⟩) .non⟩
        exact (t.append (.cons w .nil)).step q (Step.write z nf)
      · cases e
    · cases e
  · split at e
    · rename_i hn1 hn2
      split at e
      · rename_i hl
        cases e
        cases u with | ref z =>
        obtain ⟨v, rfl, w⟩ := us.one
        cases w with | ref z2 =>
        obtain ⟨ws, g, t⟩ := q.ob _ _ _ hn1 z
        obtain ⟨ws2, g2, t2⟩ := q.ob _ _ _ hn2 z2
        have nf : ∀ (o : Obj) (v : HO), H _ ≠ some (.frz o v) := fun o v y => by rw [g] at y; cases y
        refine MtR.w mt_extend ⟨_, _, ws, ws2, rfl, rfl, g, g2, by rw [← t.length, ← t2.length, ← lim_eq]; exact hl, p _ r _ (Step.write z nf) (q.write z nf ⟨_, upd_same, ?_⟩) .non⟩
        exact (t.append t2).step q (Step.write z nf)
      · cases e
    · cases e
  · split at e
    · rename_i hn
      rw [Option.bind_eq_some_iff] at e
      obtain ⟨j, e1, e2⟩ := e
      rw [Option.map_eq_some_iff] at e2
      obtain ⟨y, e2, e3⟩ := e2
      cases e3
      cases u with | ref z =>
      obtain ⟨v, rfl, w⟩ := us.one
      cases w
      obtain ⟨ws, g, t⟩ := q.ob _ _ _ hn z
      have nf : ∀ (o : Obj) (v : HO), H _ ≠ some (.frz o v) := fun o v y => by rw [g] at y; cases y
      obtain ⟨v, g3, rv⟩ := t.get e2
      have e4 := e1
      rw [t.length] at e4
      obtain ⟨i1, i2, i3, i4⟩ := ixN_seq (n := ws.length) e4
      have hz : ws.length < 2 ^ 62 ∨ ¬ ws.length < 2 ^ 62 := Nat.lt_or_ge _ _ |>.imp_right fun z => by omega
      intro pins s σ vv uu I r1 r2
      have hsz : ws.length ≤ sizeLine := (I.lstM g).1
      rw [sizeLine_eq] at hsz
      exact MtR.w mt_popAt ⟨_, ws, _, j, v, rfl, rfl, g, by omega, by omega, i1, g3, p _ r _ (Step.write z nf) (q.write z nf ⟨_, upd_same, (t.eraseIdx j).step q (Step.write z nf)⟩) (rv.step q (Step.write z nf))⟩ pins s σ vv uu I r1 r2
    · cases e
  · split at e
    · rename_i hn
      rw [Option.bind_eq_some_iff] at e
      obtain ⟨o, e1, e2⟩ := e
      rw [Option.map_eq_some_iff] at e2
      obtain ⟨j, rfl, e3⟩ := e2
      cases e3
      cases u with | ref z =>
      obtain ⟨v, rfl, w⟩ := us.one
      obtain ⟨ws, g, t⟩ := q.ob _ _ _ hn z
      obtain ⟨ds, d, a1, a2, a3, a4, a5, a6⟩ := find_data q t w e1
      have nf : ∀ (o : Obj) (v : HO), H _ ≠ some (.frz o v) := fun o v y => by rw [g] at y; cases y
      exact remove_d hu g a1 a2 a3 a4 a5 a6 (p _ r _ (Step.write z nf) (q.write z nf ⟨_, upd_same, (t.eraseIdx j).step q (Step.write z nf)⟩) .non)
    · cases e
  · rename_i v
    rw [Option.bind_eq_some_iff] at e
    obtain ⟨ys, e0, e⟩ := e
    rw [Option.bind_eq_some_iff] at e
    obtain ⟨o, e1, e2⟩ := e
    rw [Option.map_eq_some_iff] at e2
    obtain ⟨j, rfl, e3⟩ := e2
    cases e3
    obtain ⟨v, rfl, w⟩ := us.one
    obtain ⟨b, ws, rfl, t, g⟩ := items_at q u e0
    obtain ⟨ds, d, a1, a2, a3, a4, a5, a6⟩ := find_data q t w e1
    have qq := index_d (a := b) hu a1 a2 a3 a4 a5 a6 (p.same q (.int j))
    rcases g with ⟨g, n, rfl⟩ | ⟨g, rfl⟩
    · exact qq.1 g
    · exact qq.2 g
  · rename_i v
    rw [Option.bind_eq_some_iff] at e
    obtain ⟨ys, e0, e⟩ := e
    rw [Option.bind_eq_some_iff] at e
    obtain ⟨d, e1, e2⟩ := e
    rw [Option.map_eq_some_iff] at e2
    obtain ⟨zs, e2, e3⟩ := e2
    cases e3
    obtain ⟨v, rfl, w⟩ := us.one
    obtain ⟨b, ws, rfl, t, g⟩ := items_at q u e0
    obtain ⟨a1, b1, c1⟩ := den_ok q _ _ _ _ e1 w
    obtain ⟨a2, b2, c2⟩ := dens_ok q _ _ _ _ e2 t
    have qq := count_d (Q := Q) (a := b) hu a2 a1 (plain_pds _) (plain_pd _) c1 (by rw [count_pds b1 b2]; exact p.same q (.int _))
    rcases g with ⟨g, n, rfl⟩ | ⟨g, rfl⟩
    · exact qq.1 g
    · exact qq.2 g
  · have gt : ∀ {kvs : List (CV × CV)} {n : Nat} {a : Addr} {k d : CV} {w1 w2 : V}, r[n]? = some a → (h[n]? = some (.dct kvs) ∨ (h[n]? = some (.lkd kvs) ∧ kvs ≠ [])) → kok kvs k = true → RV X.K r H k w1 → RV X.K r H d w2 → PostE X r H ((dget kvs k).getD d) h Q → wM X "dict.get" (.ref a) [w1, w2] H Q := by
      intro kvs n a k d w1 w2 z e2 e3 u1 u2 p
      obtain ⟨H2, ov, i2, st, q2, g, o⟩ := dict_read q e2 z e3 u1
      intro pins s σ vv uu I r1 r2
      cases r1
      obtain ⟨t1, t2, rfl, ra, rb⟩ := vals2 r2
      refine d_get2 (by omega) (i2 _ _ _ I) g ra rb fun w' s' I' rw' => ⟨ov.getD w2, H2, I', rw', ?_⟩
      refine p _ r H2 st q2 ?_
      rcases o with ⟨o1, rfl⟩ | ⟨y, v, o1, rfl, rv⟩
      · rw [o1]; exact u2.step q st
      · rw [o1]; exact rv
    obtain ⟨w1, w2, rfl, u1, u2⟩ := us.two
    split at e
    · rename_i hn
      split at e
      · rename_i hk
        cases e
        cases u with | ref z => exact gt z (.inl hn) hk u1 u2 p
      · cases e
    · rename_i hn
      split at e
      · rename_i hk
        rw [Bool.and_eq_true] at hk
        cases e
        cases u with | ref z => exact gt z (.inr ⟨hn, fun z => by rw [z] at hk; simp at hk⟩) hk.1 u1 u2 p
      · cases e
    · cases e
  · split at e
    · rename_i hn
      split at e
      · rename_i hk
        rw [Bool.and_eq_true, decide_eq_true_eq] at hk
        obtain ⟨w1, w2, rfl, u1, u2⟩ := us.two
        cases u with | ref z =>
        obtain ⟨H2, H3, ov, i2, gp, st3, q3, g, oo, st, q2⟩ := dict_put q hn z hk.1 hk.2 u1 u2
        intro pins s σ vv uu I r1 r2
        cases r1
        obtain ⟨t1, t2, rfl, ra, rb⟩ := vals2 r2
        refine d_setdC (by omega) (i2 _ _ _ I) g gp ra rb (fun v hv w' s' I' rw' => ⟨v, H2, I', rw', ?_⟩) fun hv w' s' I' rw' => ⟨w2, H3, I', rw', ?_⟩
        · rcases oo with ⟨o1, o2⟩ | ⟨y, v', o1, o2, rv⟩
          · rw [o2] at hv; cases hv
          · rw [o2] at hv; cases hv
            rw [o1] at e
            cases e
            exact p _ r H2 st q2 rv
        · rcases oo with ⟨o1, o2⟩ | ⟨y, v', o1, o2, rv⟩
          · rw [o1] at e
            cases e
            exact p _ r H3 st3 q3 (u2.step q st3)
          · rw [o2] at hv; cases hv
      · cases e
    · cases e
  · rename_i sep a
    rw [Option.bind_eq_some_iff] at e
    obtain ⟨ys, e1, e2⟩ := e
    rw [Option.bind_eq_some_iff] at e1
    obtain ⟨zs, e0, e1⟩ := e1
    split at e2
    · rename_i hl
      cases e2
      cases u
      obtain ⟨v, rfl, w⟩ := us.one
      obtain ⟨b, ws, rfl, t, g⟩ := items_at q w e0
      have e3 := strs_vs t e1
      subst e3
      refine MtR.w mt_join ⟨_, b, ys.map toS, rfl, rfl, g.imp (·.1) (·.1), ?_, ?_⟩
      · have hs : ((ys.map toS).map (·.length)).sum = (ys.map (·.length)).sum := by
          rw [List.map_map]
          congr 1
        rw [hs, List.length_map, toS_len]
        rw [show lim = 16777216 from rfl] at hl
        cases ys with
        | nil => simp
        | cons y ys =>
          have := joinS_len sep (y :: ys) (by simp)
          omega
      · rw [join_toS]
        exact p.same q (.str _)
    · cases e2
  · split at e
    · rename_i t c hl
      cases u
      obtain ⟨v, rfl, w⟩ := us.one
      cases w
      refine MtR.w mt_partition ⟨_, _, rfl, rfl, rfl, by rw [toS_len, ← lim_eq]; exact hl, ?_⟩
      rw [part_toS]
      split at e
      · rename_i a b hp
        cases e
        try rw [hp]
        exact p.tup q (.cons (.str _) (.cons (.str _) (.cons (.str _) .nil)))
      · rename_i hp
        cases e
        try rw [hp]
        exact p.tup q (.cons (.str _) (.cons (.str _) (.cons (.str _) .nil)))
    · cases e
  · split at e
    · rename_i t c hl
      obtain ⟨rfl, rfl⟩ := newc_eq e
      cases u
      obtain ⟨v, rfl, w⟩ := us.one
      cases w
      refine MtR.w mt_split ⟨_, _, rfl, rfl, rfl, by rw [toS_len, ← lim_eq]; exact hl.1, ?_⟩
      rw [split_toS _ hl.2]
      unfold rNewStrs
      have : ∀ ws : List (List Nat), RVs X.K r H (ws.map .str) ((ws.map toS).map V.str) := fun ws => by
        induction ws with
        | nil => exact .nil
        | cons w ws ih => exact .cons (.str w) ih
      exact p.lst q (this _)
    · cases e
  · split at e
    · rename_i t hl
      cases e
      cases u
      cases us
      refine MtR.w mt_upper ⟨_, rfl, rfl, by rw [toS_len]; omega, ?_⟩
      rw [upper_toS hl.2]
      exact p.same q (.str _)
    · cases e
  · cases e
end
end TH

/-! Which text a clean expression tells. -/
namespace TH
open PySem PySem.Spec PyProof.Rows L2

def visB (sc : Scope) (x : Str) : Bool := match sc.names.lookup x with
  | some .local => true | some .cell => true | some .free => true | _ => false
def glB (sc : Scope) (x : Str) : Bool := match sc.names.lookup x with
  | some .globalImplicit => true | _ => false
/-- a name that may be stored in a block whose own scope is own -/
def stB (own sc : Scope) (x : Str) : Bool := match sc.names.lookup x with
  | some .local => true
  | some .cell => (match own.names.lookup x with | some .cell => true | _ => false)
  | _ => false
structure Names where
  N : List Str
  fn : List (Nat × String × Nat)
  gv : List (String × CV)
def opB : BOp → Operator → Bool
  | .add, .Add => true | .sub, .Sub => true | .mul, .Mult => true | .fdiv, .FloorDiv => true | .mod, .Mod => true | .pow, .Pow => true | _, _ => false
def coB : COp → CmpOp → Bool
  | .eq, .Eq => true | .ne, .NotEq => true | .lt, .Lt => true | .le, .LtE => true | .gt, .Gt => true | .ge, .GtE => true | .isin, .In => true | .notin, .NotIn => true | .is, .Is => true | .isnot, .IsNot => true | _, _ => false
def biN : Bi → String
  | .len => "len" | .all => "all" | .any => "any" | .tuple => "tuple" | .list => "list" | .set => "set" | .sorted => "sorted" | .int => "int" | .abs => "abs" | .divmod => "divmod"
  | .min1 => "min" | .max1 => "max" | .min2 => "min" | .max2 => "max" | .sum => "sum" | .isi _ => "isinstance" | .dict1 => "dict"
def tyN : Ty → String
  | .int => "int" | .str => "str" | .bool => "bool" | .tup => "tuple" | .lst => "list" | .dct => "dict"
def blNames : List Str := ["len", "all", "any", "tuple", "list", "set", "sorted", "int", "abs", "divmod", "min", "max", "sum", "isinstance", "dict", "str", "bool", "range"]
def litB : CV → Const → Bool
  | .non, .none => true
  | .bl a, .bool b => a == b
  | .int i, .int j => i == j
  | .str s, .str t => decide (t = toS s)
  | _, _ => false
def asName : Expr → Option Str
  | .Name x _ => some x | _ => none
def asConst : Expr → Option Const
  | .Constant c _ _ => some c | _ => none
def asBin : Expr → Option (Expr × Operator × Expr)
  | .BinOp a o b _ => some (a, o, b) | _ => none
def asCmp : Expr → Option (Expr × List CmpOp × List Expr)
  | .Compare a o b _ => some (a, o, b) | _ => none
def asBool : Expr → Option (PySem.BoolOp × List Expr × Pos)
  | .BoolOp o l p => some (o, l, p) | _ => none
def asUn : Expr → Option (UnaryOp × Expr)
  | .UnaryOp o a _ => some (o, a) | _ => none
def asIf : Expr → Option (Expr × Expr × Expr)
  | .IfExp c a b _ => some (c, a, b) | _ => none
def asTup : Expr → Option (List Expr)
  | .Tuple l _ _ => some l | _ => none
def asLst : Expr → Option (List Expr)
  | .List l _ => some l | _ => none
def isDct0 : Expr → Bool
  | .Dict [] [] _ => true | _ => false
def asSub : Expr → Option (Expr × Expr)
  | .Subscript a i _ => some (a, i) | _ => none
def asSlc : Expr → Option (Option Expr × Option Expr × Option Expr)
  | .Slice l u s _ => some (l, u, s) | _ => none
def asCall : Expr → Option (Str × List Expr)
  | .Call (.Name x _) l [] _ => some (x, l) | _ => none
def asMeth : Expr → Option (Expr × Str × Pos × List Expr × Pos)
  | .Call (.Attribute o nm ap) l [] p => some (o, nm, ap, l, p) | _ => none
def asComp : Expr → Option (Expr × Str × Expr × List Expr × Scope)
  | .ListComp e [⟨.Name x _, it, ifs, 0⟩] sc _ => some (e, x, it, ifs, sc) | _ => none
def isSet : Expr → Bool
  | .Set _ _ _ => true | _ => false
def isOne : Expr → Bool
  | .UnaryOp .USub (.Constant (.int 1) _ _) _ => true | _ => false
section
variable {e : Expr}
theorem asName_eq {x : Str} (h : asName e = some x) : ∃ p, e = .Name x p := by cases e <;> simp_all [asName]
theorem asConst_eq {x : Const} (h : asConst e = some x) : ∃ k p, e = .Constant x k p := by cases e <;> simp_all [asConst]
theorem asBin_eq {a b : Expr} {o : Operator} (h : asBin e = some (a, o, b)) : ∃ p, e = .BinOp a o b p := by cases e <;> simp_all [asBin]
theorem asCmp_eq {a : Expr} {o : List CmpOp} {b : List Expr} (h : asCmp e = some (a, o, b)) : ∃ p, e = .Compare a o b p := by cases e <;> simp_all [asCmp]
theorem asBool_eq {o : PySem.BoolOp} {l : List Expr} {p : Pos} (h : asBool e = some (o, l, p)) : e = .BoolOp o l p := by cases e <;> simp_all [asBool]
theorem asUn_eq {o : UnaryOp} {a : Expr} (h : asUn e = some (o, a)) : ∃ p, e = .UnaryOp o a p := by cases e <;> simp_all [asUn]
theorem asIf_eq {c a b : Expr} (h : asIf e = some (c, a, b)) : ∃ p, e = .IfExp c a b p := by cases e <;> simp_all [asIf]
theorem asTup_eq {l : List Expr} (h : asTup e = some l) : ∃ k p, e = .Tuple l k p := by cases e <;> simp_all [asTup]
theorem asLst_eq {l : List Expr} (h : asLst e = some l) : ∃ p, e = .List l p := by cases e <;> simp_all [asLst]
theorem isDct0_eq (h : isDct0 e = true) : ∃ p, e = .Dict [] [] p := by
  unfold isDct0 at h
  split at h
  · exact ⟨_, rfl⟩
  · cases h
theorem asSub_eq {a i : Expr} (h : asSub e = some (a, i)) : ∃ p, e = .Subscript a i p := by cases e <;> simp_all [asSub]
theorem asSlc_eq {l u s : Option Expr} (h : asSlc e = some (l, u, s)) : ∃ p, e = .Slice l u s p := by cases e <;> simp_all [asSlc]
theorem asCall_eq {x : Str} {l : List Expr} (h : asCall e = some (x, l)) : ∃ p q, e = .Call (.Name x p) l [] q := by
  unfold asCall at h
  split at h
  · cases h; exact ⟨_, _, rfl⟩
  · cases h
theorem asMeth_eq {o : Expr} {nm : Str} {ap p : Pos} {l : List Expr} (h : asMeth e = some (o, nm, ap, l, p)) : e = .Call (.Attribute o nm ap) l [] p := by
  unfold asMeth at h
  split at h
  · cases h; rfl
  · cases h
theorem asComp_eq {ee it : Expr} {x : Str} {ifs : List Expr} {sc : Scope} (h : asComp e = some (ee, x, it, ifs, sc)) : ∃ p q, e = .ListComp ee [⟨.Name x p, it, ifs, 0⟩] sc q := by
  unfold asComp at h
  split at h
  · cases h; exact ⟨_, _, rfl⟩
  · cases h
theorem isOne_eq (h : isOne e = true) : ∃ k p q, e = .UnaryOp .USub (.Constant (.int 1) k p) q := by
  unfold isOne at h
  split at h
  · exact ⟨_, _, _, rfl⟩
  · cases h
end
def call0 (e : Expr) : Bool := match asCall e with
  | some (_, []) => true
  | _ => false
def isSl (e : Expr) : Bool := (asSlc e).isSome
section
variable (g : Names)
def nmOk (sc : Scope) (i : Nat) (x : Str) : Bool := decide (g.N[i]? = some x) && visB sc x && !(x == ("__debug__" : Str)) && !(x == ("__classdict__" : Str))
def blkB (sc scope : Scope) (i : Nat) (x : Str) : Bool := decide (g.N[i]? = some x) && blkC g.N sc scope [(x, i)] && stB scope (relS scope sc) x
mutual
def chkE (sc : Scope) : CE → Expr → Bool
  | .var i, e => match asName e with
    | some x => nmOk g sc i x
    | none => false
  | .lit v, e => match asConst e with
    | some c => litB v c
    | none => false
  | .glob nm v, e => match asName e with
    | some x => decide (x = Str.ofString nm) && glB sc x && decide ((nm, v) ∈ g.gv) && !(x == ("__debug__" : Str))
    | none => false
  | .bin o a b, e => match asBin e with
    | some (ea, eo, eb) => opB o eo && chkE sc a ea && chkE sc b eb
    | none => false
  | .cmp o a b, e => match asCmp e with
    | some (ea, [eo], [eb]) => coB o eo && chkE sc a ea && chkE sc b eb && !isSet eb
    | _ => false
  | .cmp2 o p a b c, e => match asCmp e with
    | some (ea, [eo, ep], [eb, ec]) => coB o eo && coB p ep && chkE sc a ea && chkE sc b eb && chkE sc c ec && !isSet ec
    | _ => false
  | .cmp3 o p q a b c d, e => match asCmp e with
    | some (ea, [eo, ep, eq], [eb, ec, ed]) => coB o eo && coB p ep && coB q eq && chkE sc a ea && chkE sc b eb && chkE sc c ec && chkE sc d ed && !isSet ed
    | _ => false
  | .and a b, e => match asBool e with
    | some (.And, [ea, eb], _) => chkE sc a ea && chkE sc b eb
    | some (.And, ea :: eb :: ec :: er, p) => chkE sc a ea && chkE sc b (.BoolOp .And (eb :: ec :: er) p)
    | _ => false
  | .or a b, e => match asBool e with
    | some (.Or, [ea, eb], _) => chkE sc a ea && chkE sc b eb
    | some (.Or, ea :: eb :: ec :: er, p) => chkE sc a ea && chkE sc b (.BoolOp .Or (eb :: ec :: er) p)
    | _ => false
  | .not a, e => match asUn e with
    | some (.Not, ea) => chkE sc a ea
    | _ => false
  | .neg a, e => match asUn e with
    | some (.USub, ea) => chkE sc a ea
    | _ => false
  | .ite c a b, e => match asIf e with
    | some (ec, ea, eb) => chkE sc c ec && chkE sc a ea && chkE sc b eb
    | none => false
  | .tup es, e => match asTup e with
    | some l => chkEs sc es l && decide (l.length ≤ 1000)
    | none => false
  | .lst es, e => match asLst e with
    | some l => chkEs sc es l && decide (l.length ≤ 1000)
    | none => false
  | .dct0, e => isDct0 e
  | .ix a i, e => match asSub e with
    | some (ea, ei) => chkE sc a ea && chkE sc i ei && !isSl ei
    | none => false
  | .sl a lo hi, e => match asSub e with
    | some (ea, ei) => (match asSlc ei with
      | some (l, u, none) => chkE sc a ea && chkO sc lo l && chkO sc hi u
      | _ => false)
    | none => false
  | .rev a, e => match asSub e with
    | some (ea, ei) => (match asSlc ei with
      | some (none, none, some s) => chkE sc a ea && isOne s
      | _ => false)
    | none => false
  | .call f es, e => match asCall e with
    | some (x, l) => chkEs sc es l && (match g.fn.lookup f with | some p => decide (x = Str.ofString p.1) && decide (l.length = p.2) | none => false) && glB sc x && !(x == ("__debug__" : Str))
    | none => false
  | .bi f es, e => match asCall e with
    | some (x, l) => decide (x = Str.ofString (biN f)) && glB sc x && (match f with
      | .isi t => (match l with
        | [ea, ey] => chkEs sc es [ea] && (match asName ey with
          | some y => decide (y = Str.ofString (tyN t)) && glB sc y
          | none => false)
        | _ => false)
      | _ => chkEs sc es l && !l.isEmpty)
    | none => false
  | .me m o es, e => match asMeth e with
    | some (eo, nm, ap, l, p) => chkE sc o eo && chkEs sc es l && decide (nm = Str.ofString (meN m)) && !call0 eo && (ap.endLine == p.line) && decide (l.length ≤ 5)
    | none => false
  | .comp elt i it cond, e => match asComp e with
    | some (ee, x, ei, ifs, scope) => chkI sc it ei && blkB g sc scope i x && chkE (relS scope sc) elt ee && (match ifs with
      | [] => (match cond with | .lit (.bl true) => true | _ => false)
      | [ec] => chkE (relS scope sc) cond ec
      | _ => false)
    | none => false
  | .compD elt i vl d cond, e => match asComp e with
    | some (ee, x, ei, ifs, scope) => (match vl with
        | false => (match asName ei with
          | some y => nmOk g sc d y
          | none => false)
        | true => (match asMeth ei with
          | some (eo, nm, ap, [], p) => (match asName eo with
            | some y => nmOk g sc d y && decide (nm = ("values" : Str)) && (ap.endLine == p.line)
            | none => false)
          | _ => false)) && blkB g sc scope i x && chkE (relS scope sc) elt ee && (match ifs with
      | [] => (match cond with | .lit (.bl true) => true | _ => false)
      | [ec] => chkE (relS scope sc) cond ec
      | _ => false)
    | none => false
def chkEs (sc : Scope) : CEs → List Expr → Bool
  | .nil, l => l.isEmpty
  | .cons a as, l => match l with
    | e :: es => chkE sc a e && chkEs sc as es
    | [] => false
def chkO (sc : Scope) : CO1 → Option Expr → Bool
  | .no, e => e.isNone
  | .ex a, o => match o with
    | some e => chkE sc a e
    | none => false
def chkI (sc : Scope) : CI → Expr → Bool
  | .range1 a, e => match asCall e with
    | some (x, [ea]) => chkE sc a ea && decide (x = ("range" : Str)) && glB sc x
    | _ => false
  | .range2 a b, e => match asCall e with
    | some (x, [ea, eb]) => chkE sc a ea && chkE sc b eb && decide (x = ("range" : Str)) && glB sc x
    | _ => false
  | .val a, e => chkE sc a e && !isSet e
end
end
end TH

/-! Expressions: the clean evaluator tells the truth. -/
namespace TH
open PySem PySem.Spec PyProof.Rows L2

/-- a def's promise: what the clean function says -/
def spC (P : Program) (w : World) (K : PySem.W.Frag) (n : Nat) (m : List CV → CH → Out) : Sp := fun vs H Q _ => vs.length = n ∧ ∃ (r : Ren) (h : CH) (xs : List CV) (c : CV) (h' : CH), RH P w K r h H ∧ RVs K r H xs vs ∧ m xs h = some (c, h') ∧
  ∀ v r' H', Step r H r' H' → RH P w K r' h' H' → RV K r' H' c v → Q v H'
structure Wd (g : Names) (F : Fns) (X : Cx) : Prop where
  nN : X.N = g.N
  nd : X.N.Nodup
  calm : X.calm = true
  un : X.A.units + 70 < cLine
  bl : ∀ x ∈ blNames, X.mg x = none
  gl : ∀ p ∈ g.gv, ∃ u v, X.mg (Str.ofString p.1) = some u ∧ RelV v u ∧ ∀ r H, RV X.K r H p.2 v
  fn : ∀ (i : Nat) (p : String × Nat), g.fn.lookup i = some p → ∃ k f fd ps, X.mg (Str.ofString p.1) = some (.ref f) ∧ PySem.W.keepIn X.K (.ref f) = true ∧ Room k X.A ∧ Binds X.K fd ps [] ∧ FnOk X.prog X.w X.K X.mg X.base CX0 k f fd ps (spC X.prog X.w X.K p.2 (F i))
/-- slots -/
structure RE (X : Cx) (r : Ren) (H : Hp) (s : Env) (σ : L2.St) : Prop where
  len : σ.length = s.length
  at' : ∀ (i : Nat) (x : CV), s[i]? = some (some x) → ∃ v, σ[i]? = some (some v) ∧ RV X.K r H x v
section
variable {g : Names} {F : Fns} {X : Cx} {r r' : Ren} {H H' : Hp} {h h' : CH} {s : Env} {σ : L2.St}
theorem RE.step (t : RE X r H s σ) (q : RH X.prog X.w X.K r h H) (st : Step r H r' H') : RE X r' H' s σ := ⟨t.len, fun i x e => let ⟨v, a, b⟩ := t.at' i x e; ⟨v, a, b.step q st⟩⟩
theorem RE.set (t : RE X r H s σ) {i : Nat} {x : CV} {v : V} (u : RV X.K r H x v) : RE X r H (s.set i (some x)) (σ.set i (some v)) := by
  refine ⟨by simp [t.len], fun j y e => ?_⟩
  by_cases z : i = j
  · subst z
    have hl : i < s.length := by have := (List.getElem?_eq_some_iff.mp e).1; simpa using this
    rw [List.getElem?_set_self hl] at e
    cases e
    exact ⟨v, List.getElem?_set_self (by rw [t.len]; exact hl), u⟩
  · rw [List.getElem?_set_ne z] at e ⊢
    exact t.at' j y e
/-! ### small facts of names -/
theorem vis_of {sc : Scope} {x : Str} (e : visB sc x = true) : Vis sc x := by
  unfold visB at e
  split at e
  · exact .inl (by assumption)
  · exact .inr (.inl (by assumption))
  · exact .inr (.inr (by assumption))
  · cases e
theorem gl_of {x : Str} (e : glB X.env.scope x = true) : Gl X x := by
  unfold glB at e
  split at e
  · assumption
  · cases e
theorem nmOk_of {i : Nat} {x : Str} (W : Wd g F X) (e : nmOk g X.env.scope i x = true) : X.N[i]? = some x ∧ Vis X.env.scope x ∧ (x == ("__debug__" : Str)) = false ∧ (x == ("__classdict__" : Str)) = false := by
  unfold nmOk at e
  simp only [Bool.and_eq_true, decide_eq_true_eq, Bool.not_eq_true'] at e
  exact ⟨by rw [W.nN]; exact e.1.1.1, vis_of e.1.1.2, e.1.2, e.2⟩
abbrev fX (X : Cx) (s0 : Shared) (H0 : Hp) (scope : Scope) (C : Addr) (cl : List (Str × Addr)) (fp : List Addr) : Cx := X.blk s0 H0 scope (compEnvC scope cl C X.env) fp
theorem Wd.blk (W : Wd g F X) {s0 : Shared} {H0 : Hp} {scope : Scope} {C : Addr} {cl : List (Str × Addr)} {fp : List Addr} : Wd g F (fX X s0 H0 scope C cl fp) :=
  ⟨W.nN, W.nd, W.calm, W.un, W.bl, W.gl, W.fn⟩
/-! ### the claims -/
def SE (F : Fns) (X : Cx) (c : CE) (e : Expr) : Prop := ∀ (s : Env) (σ : L2.St) (r : Ren) (H : Hp) (h : CH) (v : CV) (h' : CH) (Q : VK), RE X r H s σ → RH X.prog X.w X.K r h H → evalC F c s h = some (v, h') → PostE X r H v h' Q → wE X e σ H Q
def ST (F : Fns) (X : Cx) (c : CE) (e : Expr) : Prop := ∀ (s : Env) (σ : L2.St) (r : Ren) (H : Hp) (h : CH) (b : Bool) (h' : CH) (Q : Bool → Hp → Prop), RE X r H s σ → RH X.prog X.w X.K r h H → testC F c s h = some (b, h') →
  (∀ r' H', Step r H r' H' → RH X.prog X.w X.K r' h' H' → Q b H') → wT X e σ H Q
def wA (X : Cx) : List Expr → TA
  | [] => tNil
  | e :: es => tCons (wE X e) (wA X es)
def SA (F : Fns) (X : Cx) (cs : CEs) (es : List Expr) : Prop := ∀ (s : Env) (σ : L2.St) (r : Ren) (H : Hp) (h : CH) (vs : List CV) (h' : CH) (Q : List V → Hp → Prop), RE X r H s σ → RH X.prog X.w X.K r h H → evalCs F cs s h = some (vs, h') →
  (∀ us r' H', Step r H r' H' → RH X.prog X.w X.K r' h' H' → RVs X.K r' H' vs us → Q us H') → wA X es σ H Q
def wOp (X : Cx) : Option Expr → TO
  | none => tNoPart
  | some e => tPart (wE X e)
def SO (F : Fns) (X : Cx) (c : CO1) (e : Option Expr) : Prop := ∀ (s : Env) (σ : L2.St) (r : Ren) (H : Hp) (h : CH) (o : Option Int) (h' : CH) (Q : Option Int → Hp → Prop), RE X r H s σ → RH X.prog X.w X.K r h H → evalO F c s h = some (o, h') →
  (∀ r' H', Step r H r' H' → RH X.prog X.w X.K r' h' H' → Q o H') → wOp X e σ H Q
/-- what is walked -/
def RJ (X : Cx) (r0 : Ren) (H0 : Hp) (src : Src) (J : It) : Prop := ∀ (i : Nat) (r : Ren) (H : Hp) (h : CH), Step r0 H0 r H → RH X.prog X.w X.K r h H → match src.item h i with
  | some (some x) => J.go i H ∧ ∀ v H', J.yld i H v H' → H' = H ∧ RV X.K r H x v
  | some none => J.stop i H
  | none => True
def wI' (X : Cx) (tg e : Expr) : TI := fun σ H R => ∀ (pins : List (Addr × Obj)) (s : Shared), Inv X pins σ H s → wpAny (model X.prog X.w) X.A (eval e X.env) (fun v s1 => wpAny (model X.prog X.w) X.A (pyIter v) (PIE X pins σ tg R) X.xe s1) X.xe s
theorem piW {tg e : Expr} : PI X tg e (wI' X tg e) := ⟨fun pins s σ H R I h => h pins s I⟩
theorem PI.w {tg e : Expr} {t : TI} (p : PI X tg e t) {σ : L2.St} {H : Hp} {R : It → Hp → Prop} (h : t σ H R) : wI' X tg e σ H R := fun pins s I => p.run pins s σ H R I h
def SI (F : Fns) (X : Cx) (c : CI) (e : Expr) : Prop := ∀ (tg : Expr) (s : Env) (σ : L2.St) (r : Ren) (H : Hp) (h : CH) (src : Src) (h' : CH) (R : It → Hp → Prop), RE X r H s σ → RH X.prog X.w X.K r h H → evalI F c s h = some (src, h') →
  (∀ J r' H', Step r H r' H' → RH X.prog X.w X.K r' h' H' → RJ X r' H' src J → R J H') → wI' X tg e σ H R
/-! ### no star -/
def star : Expr → Bool
  | .Starred _ _ => true | _ => false
theorem chk_star {c : CE} {e : Expr} {sc : Scope} (hc : chkE g sc c e = true) : star e = false := by
  cases e with
  | Starred _ _ => cases c <;> simp [chkE, asName, asConst, asBin, asCmp, asBool, asUn, asIf, asTup, asLst, isDct0, asSub, asCall, asMeth, asComp] at hc
  | _ => rfl
theorem star_each {e : Expr} {es : List Expr} {env : PySem.Env} (hs : star e = false) : starEach (e :: es) env = (false, eval e env) :: starEach es env := by
  cases e <;> first | rfl | (simp [star] at hs)
theorem chkEs_star {sc : Scope} : ∀ {cs : CEs} {l : List Expr}, chkEs g sc cs l = true → ∀ e ∈ l, star e = false
  | .nil, l, hc, e, he => by
    simp only [chkEs, List.isEmpty_iff] at hc
    subst hc
    cases he
  | .cons c cs, [], hc, _, _ => by simp [chkEs] at hc
  | .cons c cs, e :: es, hc, x, hx => by
    simp only [chkEs, Bool.and_eq_true] at hc
    rcases List.mem_cons.mp hx with z | z
    · rw [z]; exact chk_star hc.1
    · exact chkEs_star hc.2 x z
theorem any_star {env : PySem.Env} {pos : Pos} : ∀ {es : List Expr}, (∀ e ∈ es, star e = false) → (starEach es env).any (·.1) = false
  | [], _ => rfl
  | e :: es, hs => by
    rw [star_each (hs e List.mem_cons_self)]
    simp only [List.any_cons, any_star (es := es) (pos := pos) fun x hx => hs x (List.mem_cons_of_mem _ hx), Bool.or_false]
theorem paW : ∀ {es : List Expr}, (∀ e ∈ es, star e = false) → PA X es (wA X es)
  | [], _ => pa_nil
  | e :: es, hs => pa_cons peW (paW fun x hx => hs x (List.mem_cons_of_mem _ hx)) (star_each (hs e List.mem_cons_self))
/-- a test's value -/
theorem test_eval {c : CE} {b : Bool} (e : testC F c s h = some (b, h')) : evalC F c s h = some (.bl b, h') := by
  cases c with
  | and a d =>
    simp only [testC, evalC] at e ⊢
    cases e1 : testC F a s h with
    | none => rw [e1] at e; cases e
    | some p =>
      rw [e1] at e
      simp only [Option.bind_some] at e ⊢
      split at e
      · rw [if_pos (by assumption), e]; rfl
      · rw [if_neg (by assumption)]; cases e; rfl
  | or a d =>
    simp only [testC, evalC] at e ⊢
    cases e1 : testC F a s h with
    | none => rw [e1] at e; cases e
    | some p =>
      rw [e1] at e
      simp only [Option.bind_some] at e ⊢
      split at e
      · rw [if_pos (by assumption)]; cases e; rfl
      · rw [if_neg (by assumption), e]; rfl
  | not a =>
    simp only [testC, evalC, Option.map_eq_some_iff] at e ⊢
    obtain ⟨p, e1, e2⟩ := e
    cases e2
    exact ⟨p, e1, rfl⟩
  | lit v => cases v <;> simp_all [testC, evalC]
  | var i =>
    simp only [testC, evalC] at e ⊢
    split at e
    · cases e; simp_all
    · cases e
  | cmp o a d =>
    simp only [testC, evalC, Option.bind_eq_some_iff, Option.map_eq_some_iff] at e ⊢
    obtain ⟨p, e1, q, e2, k, e3, e4⟩ := e
    cases e4
    exact ⟨p, e1, q, e2, _, e3, rfl⟩
  | cmp2 o o2 a b c =>
    simp only [testC, evalC, Option.bind_eq_some_iff] at e ⊢
    obtain ⟨p, e1, q, e2, k, e3, e4⟩ := e
    refine ⟨p, e1, q, e2, k, e3, ?_⟩
    split at e4
    · rw [if_pos (by assumption)]
      simp only [Option.bind_eq_some_iff, Option.map_eq_some_iff] at e4 ⊢
      obtain ⟨u, f1, k2, f2, f3⟩ := e4
      cases f3
      exact ⟨u, f1, _, f2, rfl⟩
    · rw [if_neg (by assumption)]; cases e4; rfl
  | cmp3 o o2 o3 a b c d =>
    simp only [testC, evalC, Option.bind_eq_some_iff] at e ⊢
    obtain ⟨p, e1, q, e2, k, e3, e4⟩ := e
    refine ⟨p, e1, q, e2, k, e3, ?_⟩
    split at e4
    · rw [if_pos (by assumption)]
      simp only [Option.bind_eq_some_iff] at e4 ⊢
      obtain ⟨u, f1, k2, f2, f3⟩ := e4
      refine ⟨u, f1, k2, f2, ?_⟩
      split at f3
      · rw [if_pos (by assumption)]
        simp only [Option.bind_eq_some_iff, Option.map_eq_some_iff] at f3 ⊢
        obtain ⟨u2, g1, k3, g2, g3⟩ := f3
        cases g3
        exact ⟨u2, g1, _, g2, rfl⟩
      · rw [if_neg (by assumption)]; cases f3; rfl
    · rw [if_neg (by assumption)]; cases e4; rfl
  | call f es =>
    simp only [testC, evalC, Option.bind_eq_some_iff] at e ⊢
    obtain ⟨p, e1, q, e2, e3⟩ := e
    refine ⟨p, e1, ?_⟩
    split at e3
    · rename_i b2 hb
      cases e3
      rw [e2, ← hb]
    · cases e3
  | bi f es =>
    simp only [testC, evalC, Option.bind_eq_some_iff] at e ⊢
    obtain ⟨p, e1, q, e2, e3⟩ := e
    refine ⟨p, e1, ?_⟩
    split at e3
    · rename_i b2 hb
      cases e3
      rw [e2, ← hb]
    · cases e3
  | _ => simp [testC] at e
end
end TH

/-! Comprehensions. -/
namespace TH
open PySem PySem.Spec PyProof.Rows L2
section
variable {g : Names} {F : Fns} {X : Cx} {r r' : Ren} {H H' : Hp} {h h' : CH} {s : Env} {σ : L2.St}
/-- a reading is sound for a clean expression, a clean test -/
def RdE (F : Fns) (X : Cx) (c : CE) (t : TE) : Prop := ∀ (s : Env) (σ : L2.St) (r : Ren) (H : Hp) (h : CH) (v : CV) (h' : CH) (Q : VK), RE X r H s σ → RH X.prog X.w X.K r h H → evalC F c s h = some (v, h') → PostE X r H v h' Q → t σ H Q
def RdT (F : Fns) (X : Cx) (c : CE) (t : TT) : Prop := ∀ (s : Env) (σ : L2.St) (r : Ren) (H : Hp) (h : CH) (b : Bool) (h' : CH) (Q : Bool → Hp → Prop), RE X r H s σ → RH X.prog X.w X.K r h H → testC F c s h = some (b, h') →
  (∀ r' H', Step r H r' H' → RH X.prog X.w X.K r' h' H' → Q b H') → t σ H Q
theorem wipe1 (σ : L2.St) (i : Nat) : L2.wipe σ [i] = σ.set i none := rfl
def compB (F : Fns) (elt cond : CE) (i : Nat) (s : Env) : CV → List CV → CH → Option (List CV × CH) := fun x acc h => (testC F cond (s.set i (some x)) h).bind fun b => if b.1 = true then (evalC F elt (s.set i (some x)) b.2).map fun y => (acc ++ [y.1], y.2) else some (acc, b.2)
theorem comp_loop {elt cond : CE} {i : Nat} {src : Src} {J : It} {te : TE} {tt : TT} {acc2 : List CV} {h2 : CH} {n : Nat} {Q : VK} (rj : RJ X r H src J) (q : RH X.prog X.w X.K r h H) (re : RE X r H s σ) (he : RdE F X elt te) (ht : RdT F X cond tt)
    (hn : n ≤ lim) (e : loopGo src (compB F elt cond i s) n 0 [] h = some (acc2, h2)) (D : Addr) (hD : H D = none)
    (post : ∀ r' H' av, Step r H r' H' → RH X.prog X.w X.K r' h2 H' → D ∉ r' → H' D = some (.lst av) → RVs X.K r' H' acc2 av → Q (.ref D) H') :
    ∃ W : Nat → Nat → Hp → Prop, (∃ m, W 0 m (upd H D (.lst []))) ∧ ∀ j m H, W j m H →
      (J.stop j H ∧ Q (.ref D) H) ∨ (J.go j H ∧ ∃ Nx : Hp → Prop, (∀ H', Nx H' → ∃ m', m' < m ∧ W (j + 1) m' H') ∧ ∀ x H', J.yld j H x H' → gName i x (L2.wipe σ [i]) H' fun σ2 H2 => L2.wipe σ2 [i] = L2.wipe σ [i] ∧ tt σ2 H2 fun b H3 =>
        if b = true then te σ2 H3 fun y H4 => ∃ acc, H4 D = some (.lst acc) ∧ acc.length < sizeLine ∧ Nx (upd H4 D (.lst (acc ++ [y]))) else Nx H3) := by
  have ntD : ∀ {H' : Hp} {av : List V}, H' D = some (.lst av) → ∀ u, Kp u → H' D ≠ some u := fun e u k z => by rw [e] at z; cases k <;> cases z
  refine ⟨fun j k H3 => ∃ r3 h3 acc av, Step r H r3 H3 ∧ RH X.prog X.w X.K r3 h3 H3 ∧ D ∉ r3 ∧ H3 D = some (.lst av) ∧ RVs X.K r3 H3 acc av ∧ acc.length ≤ j ∧ j + k ≤ lim ∧ loopGo src (compB F elt cond i s) k j acc h3 = some (acc2, h2),
    ⟨n, r, h, [], [], Step.laid hD, q.laid hD, q.fresh hD, upd_same, .nil, Nat.le_refl _, by omega, e⟩, ?_⟩
  rintro j k H3 ⟨r3, h3, acc, av, st, q3, nD, eD, ra, la, lj, e3⟩
  have rjj := rj j r3 H3 h3 st q3
  cases k with
  | zero =>
    unfold loopGo at e3
    split at e3
    · rename_i hi
      cases e3
      rw [hi] at rjj
      exact .inl ⟨rjj, post r3 H3 av st q3 nD eD ra⟩
    · cases e3
  | succ k =>
    unfold loopGo at e3
    split at e3
    · rename_i x hi
      rw [hi] at rjj
      obtain ⟨go, yl⟩ := rjj
      refine .inr ⟨go, fun H4 => ∃ r3 h3 acc av, Step r H r3 H4 ∧ RH X.prog X.w X.K r3 h3 H4 ∧ D ∉ r3 ∧ H4 D = some (.lst av) ∧ RVs X.K r3 H4 acc av ∧ acc.length ≤ j + 1 ∧ j + 1 + k ≤ lim ∧ loopGo src (compB F elt cond i s) k (j + 1) acc h3 = some (acc2, h2),
        fun H4 z => ⟨k, Nat.lt_succ_self _, z⟩, fun v H4 y => ?_⟩
      obtain ⟨rfl, rv⟩ := yl v H4 y
      rw [wipe1]
      unfold gName
      rw [List.set_set]
      refine ⟨by rw [wipe1, List.set_set], ?_⟩
      rw [Option.bind_eq_some_iff] at e3
      obtain ⟨⟨acc', h5⟩, e4, e5⟩ := e3
      unfold compB at e4
      rw [Option.bind_eq_some_iff] at e4
      obtain ⟨⟨b, h6⟩, e6, e7⟩ := e4
      have re3 := ((re.step q st).set (i := i) rv)
      refine ht _ _ r3 H4 h3 b h6 _ re3 q3 e6 fun r6 H6 st6 q6 => ?_
      have eD6 := st6.keep D _ eD nD
      have nD6 : D ∉ r6 := fun z => by have := st6.new D z nD; rw [eD] at this; cases this
      cases b with
      | false =>
        rw [if_neg Bool.false_ne_true]
        simp only [Bool.false_eq_true, if_false, Option.some.injEq, Prod.mk.injEq] at e7
        obtain ⟨rfl, rfl⟩ := e7
        exact ⟨r6, h6, acc, av, st.trans st6, q6, nD6, eD6, ra.step q3 st6, by omega, by omega, e5⟩
      | true =>
        rw [if_pos rfl]
        simp only [if_true, Option.map_eq_some_iff] at e7
        obtain ⟨⟨y7, h7⟩, e7, e8⟩ := e7
        simp only [Prod.mk.injEq] at e8
        obtain ⟨rfl, rfl⟩ := e8
        refine he _ _ r6 H6 h6 y7 h7 _ (re3.step q3 st6) q6 e7 fun v8 r8 H8 st8 q8 rv8 => ?_
        have eD8 := st8.keep D _ eD6 nD6
        have nD8 : D ∉ r8 := fun z => by have := st8.new D z nD6; rw [eD6] at this; cases this
        have hl : av.length = acc.length := ra.length.symm
        refine ⟨av, eD8, by rw [← lim_eq]; omega, r8, h7, acc ++ [y7], av ++ [v8], ?_, q8.other (ntD eD8) nD8, nD8, upd_same, ?_, by simp; omega, by omega, e5⟩
        · have st9 := st.trans (st6.trans st8)
          exact ⟨st9.pre, fun a o e n => by rw [upd_ne (ne_of_none e hD)]; exact st9.keep a o e n, fun a o u e => by rw [upd_ne (ne_of_none e hD)]; exact st9.frz a o u e, st9.new⟩
        · refine RVs.keep (fun a u k z => ?_) (fun _ _ z => z) (((ra.step q3 st6).step q6 st8).append (.cons rv8 .nil))
          rw [upd_ne (fun y => ntD eD8 u k (by rw [← y]; exact z))]; exact z
    · cases e3
/-- the new list becomes a cell -/
theorem comp_post {v : CV} {h2 h3 : CH} {acc2 : List CV} {Q : VK} {r0 : Ren} {H0 : Hp} (q0 : RH X.prog X.w X.K r0 h' H0) (st0 : Step r0 H0 r H) (hD' : H D = none) (e : newc h2 (.lst acc2) = some (v, h3)) (p : PostE X r0 H0 v h3 Q) :
    ∀ r' H' av, Step r H r' H' → RH X.prog X.w X.K r' h2 H' → D ∉ r' → H' D = some (.lst av) → RVs X.K r' H' acc2 av → Q (.ref D) H' := by
  intro r' H' av st q nD eD ra
  obtain ⟨rfl, rfl⟩ := newc_eq e
  have ix : ∀ (n : Nat) (a : Addr), r'[n]? = some a → (r' ++ [D])[n]? = some a := fun n a z => by
    rw [List.getElem?_append_left (List.getElem?_eq_some_iff.mp z).1]; exact z
  have st2 : Step r H (r' ++ [D]) H' := by
    refine ⟨?_, st.keep, st.frz, fun a h1 h2 => ?_⟩
    · obtain ⟨t, e⟩ := st.pre
      exact ⟨t ++ [D], by rw [e, List.append_assoc]⟩
    · rcases List.mem_append.mp h1 with z | z
      · exact st.new a z h2
      · rw [List.mem_singleton.mp z]; exact hD'
  refine p _ (r' ++ [D]) H' (st0.trans st2) (q.adopt nD ⟨av, eD, ra.keep (fun _ _ _ z => z) ix⟩) (.ref ?_)
  rw [q.len]; simp
end
end TH

set_option maxHeartbeats 4000000
/-! Expressions: by induction. -/
namespace TH
open PySem PySem.Spec PyProof.Rows L2
section
variable {g : Names} {F : Fns}
theorem rv_bl {X : Cx} {r : Ren} {H : Hp} {b : Bool} {v : V} (u : RV X.K r H (.bl b) v) : v = .bl b := by cases u; rfl
theorem litB_pe {X : Cx} {v : CV} {c : Const} {k : Nat} {p : Pos} (e : litB v c = true) : ∃ w, PE X (.Constant c k p) (tC w) ∧ ∀ r H, RV X.K r H v w := by
  unfold litB at e
  split at e
  · exact ⟨.non, pe_non, fun _ _ => .non⟩
  · rw [beq_iff_eq] at e; subst e
    exact ⟨.bl _, pe_bl, fun _ _ => .bl _⟩
  · rw [beq_iff_eq] at e; subst e
    exact ⟨.int _, pe_int, fun _ _ => .int _⟩
  · rw [decide_eq_true_eq] at e; subst e
    exact ⟨.str _, pe_str, fun _ _ => .str _⟩
  · cases e
theorem opB_eq {o : BOp} {eo : Operator} (e : opB o eo = true) : eo = opOf o := by
  cases o <;> cases eo <;> first | rfl | (simp [opB] at e)
theorem coB_eq {o : COp} {eo : CmpOp} (e : coB o eo = true) : eo = cmpOf o := by
  cases o <;> cases eo <;> first | rfl | (simp [coB] at e)
theorem marks {op : CmpOp} {b : Expr} (e : isSet b = false) : behindInMarks op b = false := by
  cases b <;> first | rfl | (simp [isSet] at e)
theorem lastM2 {o p : CmpOp} {b c : Expr} (e : isSet c = false) : lastMarks [o, p] [b, c] = false := by
  show behindInMarks p c = false
  exact marks e
theorem lastM3 {o p q : CmpOp} {b c d : Expr} (e : isSet d = false) : lastMarks [o, p, q] [b, c, d] = false := by
  show behindInMarks q d = false
  exact marks e
theorem slice_of {X : Cx} {e : Expr} (h : isSl e = false) : PlainIx e := by
  intro o i
  cases e <;> first | rfl | (simp [isSl, asSlc] at h)
theorem fold_of {X : Cx} {e : Expr} (h : isSet e = false) : ∀ x, foldedSetIterable e X.env x = pure x := by
  intro x
  cases e <;> first | rfl | (simp [isSet] at h)
/-- as a test: what no rule of its own takes -/
def plainT : Expr → Bool
  | .UnaryOp .Not _ _ => false
  | .BoolOp _ _ _ => false
  | .IfExp _ _ _ _ => false
  | .Compare _ _ _ _ => false
  | _ => true
theorem isTrue_of {X : Cx} {e : Expr} (h : plainT e = true) : ∀ whole, isTrue e X.env whole = (do let v ← whole; standAt e.pos; holding [v] (truthy v)) := by
  intro whole
  cases e <;> first | rfl | (simp [plainT] at h; done) | skip
  rename_i op a p
  cases op <;> first | rfl | (simp [plainT] at h)
theorem st_plain {X : Cx} {c : CE} {e : Expr} (hp : plainT e = true) (se : SE F X c e) : ST F X c e := by
  intro s σ r H h b h' Q re q ev post
  refine PT.w (pt_val (peW (X := X) (e := e)) (isTrue_of hp)) ?_
  refine se s σ r H h _ h' _ re q (test_eval ev) fun v r' H' st q' rv => ?_
  rw [rv_bl rv]
  exact ⟨b, rfl, post r' H' st q'⟩
theorem bi_boot (f : Bi) : bootBuiltins (Str.ofString (biN f)) = some (biOf f) := by
  cases f with
  | isi t => cases t <;> decide +kernel
  | _ => decide +kernel
theorem bi_bl (f : Bi) : Str.ofString (biN f) ∈ blNames := by
  cases f with
  | isi t => cases t <;> decide +kernel
  | _ => decide +kernel
theorem bi_nm (f : Bi) : Str.ofString (biN f) ≠ "__name__" ∧ (Str.ofString (biN f) == ("__debug__" : Str)) = false := by
  cases f with
  | isi t => cases t <;> decide +kernel
  | _ => decide +kernel
theorem ty_boot (t : Ty) : bootBuiltins (Str.ofString (tyN t)) = some (.type (tyN t)) := by
  cases t <;> decide +kernel
theorem ty_bl (t : Ty) : Str.ofString (tyN t) ∈ blNames := by
  cases t <;> decide +kernel
theorem ty_nm (t : Ty) : Str.ofString (tyN t) ≠ "__name__" ∧ (Str.ofString (tyN t) == ("__debug__" : Str)) = false := by
  cases t <;> decide +kernel
/-- a call of a built-in -/
theorem pe_bi {X : Cx} {f : Bi} {l : List Expr} {p pos : Pos} {t : TA} (W : Wd g F X) (hg : Gl X (Str.ofString (biN f))) (ha : PA X l t) (hs : ∀ e ∈ l, star e = false) (hl : l ≠ []) (hf : ∀ t, f ≠ .isi t) :
    PE X (.Call (.Name (Str.ofString (biN f)) p) l [] pos) (tCB (wC X (biOf f)) t) := by
  cases l with
  | nil => exact absurd rfl hl
  | cons e es =>
    have h1 := star_each (es := es) (env := X.env) (hs e List.mem_cons_self)
    have h2 : (backTo pos (starEach es X.env)).any (·.1) = false := by
      have := any_star (env := X.env) (pos := pos) (es := es) fun x hx => hs x (List.mem_cons_of_mem _ hx)
      unfold backTo
      rw [List.any_map]
      exact this
    cases e0 : biOf f with
    | builtin id =>
      exact pe_callB callW hg (W.bl _ (bi_bl f)) (by rw [bi_boot, e0]) ha (bi_nm f).1 (bi_nm f).2 h1 h2
    | type T =>
      exact pe_callTy callW hg (W.bl _ (bi_bl f)) (by rw [bi_boot, e0]) ha (bi_nm f).1 (bi_nm f).2 h1 h2
    | _ => cases f <;> simp [biOf] at e0
theorem isi_ok {X : Cx} {r : Ren} {H : Hp} {h : CH} {t : Ty} {a : CV} {v : V} {b : Bool} {Q : VK} (q : RH X.prog X.w X.K r h H) (u : RV X.K r H a v) (e : isiV t a h = some b) (p : PostE X r H (.bl b) h Q) : wC X (.builtin "isinstance") [v, .ty (tyN t)] H Q := by
  have fin : ∀ {T : String}, TyX X.K H v (.type T) → kitB T (tyN t) = some b → wC X (.builtin "isinstance") [v, .ty (tyN t)] H Q := fun ty k =>
    CallR.w call_isi ⟨v, .ty (tyN t), _, _, b, rfl, .ty _, ty, kit_ty k, p.same q (.bl b)⟩
  cases u with
  | non => cases t <;> simp only [isiV, Option.some.injEq] at e <;> subst e <;> exact fin (.base .non) (by decide +kernel)
  | bl x => cases t <;> simp only [isiV, Option.some.injEq] at e <;> subst e <;> exact fin (.base (.bl x)) (by decide +kernel)
  | int x => cases t <;> simp only [isiV, Option.some.injEq] at e <;> subst e <;> exact fin (.base (.int x)) (by decide +kernel)
  | str x => cases t <;> simp only [isiV, Option.some.injEq] at e <;> subst e <;> exact fin (.base (.str _)) (by decide +kernel)
  | tup e1 _ => cases t <;> simp only [isiV, Option.some.injEq] at e <;> subst e <;> exact fin (.base (.tup e1)) (by decide +kernel)
  | lst z => cases t <;> cases e
  | @ref n a z =>
    have lst : ∀ {xs : List CV}, h[n]? = some (.lst xs) → TyX X.K H (.ref a) (.type "list") := fun hm => by
      obtain ⟨vs, g, _⟩ := q.ob _ _ _ hm z
      exact .base (.lst g)
    have frz : ∀ {xs : List CV}, h[n]? = some (.frz xs) → TyX X.K H (.ref a) (.type "list") := fun hm => by
      obtain ⟨o, vs, g, _⟩ := q.ob _ _ _ hm z
      exact .base (.frz g)
    have dct : ∀ {xs : List (CV × CV)}, h[n]? = some (.dct xs) → TyX X.K H (.ref a) (.type "dict") := fun hm => by
      obtain ⟨u, g, d⟩ := q.ob _ _ _ hm z
      rcases d with ⟨es, rfl, _⟩ | ⟨es, rfl, _⟩
      · exact .base (.dK g)
      · exact .base (.dT g)
    cases t <;> simp only [isiV] at e <;> split at e <;> first
      | (cases e; exact fin (lst (by assumption)) (by decide +kernel))
      | (cases e; exact fin (frz (by assumption)) (by decide +kernel))
      | (cases e; exact fin (dct (by assumption)) (by decide +kernel))
      | (cases e; done)
theorem cmp_PE {X : Cx} {o : COp} {a b : Expr} {pos : Pos} (hs : isSet b = false) : PE X (.Compare a [cmpOf o] [b] pos) (tOp (wO X (compareOp (cmpOf o))) (wE X a) (wE X b)) := pe_cmpR opW peW peW (marks hs)
theorem pe_chain3 {X : Cx} {op op' op2 : CmpOp} {r r' r2 : R2} {a b c d : Expr} {ta tb tc td : TE} {pos : Pos} (ho : OpR X (compareOp op) r) (ho' : OpR X (compareOp op') r') (ho2 : OpR X (compareOp op2) r2) (ha : PE X a ta) (hb : PE X b tb) (hc : PE X c tc) (hd : PE X d td)
    (hm : lastMarks [op, op', op2] [b, c, d] = false) : PE X (.Compare a [op, op', op2] [b, c, d] pos) (fun σ H Q => ta σ H fun x H1 => tb σ H1 fun y H2 => r x y H2 fun z H3 => ∃ k, z = .bl k ∧
      (if k = true then tc σ H3 fun w H4 => r' y w H4 fun z2 H5 => ∃ k2, z2 = .bl k2 ∧ (if k2 = true then td σ H5 fun w2 H6 => r2 w w2 H6 Q else Q (.bl false) H5) else Q (.bl false) H3)) := by
  refine ⟨fun pins s σ H Q I h => ?_⟩
  refine Compare_chain (thn (ha.run pins s σ H _ I h) fun v s1 ⟨x, H1, I1, r1, q1⟩ => chain_link (thn (hb.run pins s1 σ H1 _ I1 q1) fun u s2 ⟨y, H2, I2, r2', q2⟩ =>
    thn (ho pins s2 σ H2 x y v u _ I2 r1 r2' q2) fun d' s3 ⟨z, H3, I3, r3, k, e, q3⟩ => ?_)) hm
  subst e
  cases r3
  refine wpAny_truthy_bool ?_
  cases k with
  | false => exact ite_ff ⟨.bl false, H3, I3, rfl, q3⟩
  | true =>
    refine ite_tt (chain_link (thn (hc.run pins s3 σ H3 _ I3 q3) fun w' s4 ⟨w, H4, I4, r4, q4⟩ => thn (ho' pins s4 σ H4 y w u w' _ I4 r2' r4 q4) fun d2 s5 ⟨z2, H5, I5, r5, k2, e2, q5⟩ => ?_))
    subst e2
    cases r5
    refine wpAny_truthy_bool ?_
    cases k2 with
    | false => exact ite_ff ⟨.bl false, H5, I5, rfl, q5⟩
    | true => exact ite_tt (chain_last (thn (hd.run pins s5 σ H5 _ I5 q5) fun w2' s6 ⟨w2, H6, I6, r6, q6⟩ => ho2 pins s6 σ H6 w w2 w' w2' Q I6 r4 r6 q6))
theorem pt_chain3 {X : Cx} {op op' op2 : CmpOp} {r r' r2 : R2} {a b c d : Expr} {ta tb tc td : TE} {pos : Pos} (ho : OpR X (compareOp op) r) (ho' : OpR X (compareOp op') r') (ho2 : OpR X (compareOp op2) r2) (ha : PE X a ta) (hb : PE X b tb) (hc : PE X c tc) (hd : PE X d td)
    (hm : lastMarks [op, op', op2] [b, c, d] = false) : PT X (.Compare a [op, op', op2] [b, c, d] pos) (fun σ H Q => ta σ H fun x H1 => tb σ H1 fun y H2 => r x y H2 fun z H3 => ∃ k, z = .bl k ∧
      (if k = true then tc σ H3 fun w H4 => r' y w H4 fun z2 H5 => ∃ k2, z2 = .bl k2 ∧ (if k2 = true then td σ H5 fun w2 H6 => r2 w w2 H6 fun z3 H7 => ∃ k3, z3 = .bl k3 ∧ Q k3 H7 else Q false H5) else Q false H3)) := by
  refine ⟨fun pins s σ H Q I h => ?_⟩
  refine isTrue_chain (thn (ha.run pins s σ H _ I h) fun v s1 ⟨x, H1, I1, r1, q1⟩ => test_link (thn (hb.run pins s1 σ H1 _ I1 q1) fun u s2 ⟨y, H2, I2, r2', q2⟩ =>
    thn (ho pins s2 σ H2 x y v u _ I2 r1 r2' q2) fun d' s3 ⟨z, H3, I3, r3, k, e, q3⟩ => ?_)) hm
  subst e
  cases r3
  refine wpAny_truthy_bool ?_
  cases k with
  | false => exact ite_ff ⟨H3, I3, q3⟩
  | true =>
    refine ite_tt (test_link (thn (hc.run pins s3 σ H3 _ I3 q3) fun w' s4 ⟨w, H4, I4, r4, q4⟩ => thn (ho' pins s4 σ H4 y w u w' _ I4 r2' r4 q4) fun d2 s5 ⟨z2, H5, I5, r5, k2, e2, q5⟩ => ?_))
    subst e2
    cases r5
    refine wpAny_truthy_bool ?_
    cases k2 with
    | false => exact ite_ff ⟨H5, I5, q5⟩
    | true =>
      refine ite_tt (test_last (thn (hd.run pins s5 σ H5 _ I5 q5) fun w2' s6 ⟨w2, H6, I6, r6, q6⟩ => thn (ho2 pins s6 σ H6 w w2 w' w2' _ I6 r4 r6 q6) fun d3 s7 ⟨z3, H7, I7, r7, k3, e3, q7⟩ => ?_))
      subst e3
      cases r7
      exact wpAny_truthy_bool ⟨H7, I7, q7⟩
end
end TH

set_option maxHeartbeats 4000000
/-! Expressions: by induction. -/
namespace TH
open PySem PySem.Spec PyProof.Rows L2
section
variable {g : Names} {F : Fns}
theorem evalCs_len {sc : Scope} : ∀ {cs : CEs} {s : Env} {h : CH} {vs : List CV} {h1 : CH} {l : List Expr}, evalCs F cs s h = some (vs, h1) → chkEs g sc cs l = true → vs.length = l.length
  | .nil, s, h, vs, h1, l, e, hc => by
    simp only [evalCs, Option.some.injEq, Prod.mk.injEq] at e
    simp only [chkEs, List.isEmpty_iff] at hc
    rw [← e.1, hc]; rfl
  | .cons c cs, s, h, vs, h1, [], e, hc => by simp [chkEs] at hc
  | .cons c cs, s, h, vs, h1, x :: l, e, hc => by
    simp only [evalCs, Option.bind_eq_some_iff, Option.map_eq_some_iff] at e
    obtain ⟨p, e1, q, e2, e3⟩ := e
    simp only [chkEs, Bool.and_eq_true] at hc
    cases e3
    simp only [List.length_cons]
    rw [evalCs_len e2 hc.2]
theorem call_step {X : Cx} {f : Nat} {es : CEs} {l : List Expr} {x : Str} {p pos : Pos} (W : Wd g F X) (sa : SA F X es l) (hk : chkEs g X.env.scope es l = true)
    (hc : (match g.fn.lookup f with | some p => decide (x = Str.ofString p.1) && decide (l.length = p.2) | none => false) = true) (hg : glB X.env.scope x = true) (hd : (x == ("__debug__" : Str)) = false) : SE F X (.call f es) (.Call (.Name x p) l [] pos) := by
  have hs := chkEs_star hk
  split at hc
  · rename_i nm hf
    rw [Bool.and_eq_true, decide_eq_true_eq, decide_eq_true_eq] at hc
    obtain ⟨rfl, hl⟩ := hc
    obtain ⟨k, fa, fd, ps, hm, kp, rm, bd, ok⟩ := W.fn f nm hf
    intro s σ r H h v h' Q re q ev post
    simp only [evalC, Option.bind_eq_some_iff] at ev
    obtain ⟨⟨vs, h1⟩, e1, e2⟩ := ev
    have body : wA X l σ H fun us H1 => spC X.prog X.w X.K nm.2 (F f) (us ++ []) H1 Q E0 := by
      refine sa s σ r H h vs h1 _ re q e1 fun us r1 H1 st q1 rv => ?_
      rw [List.append_nil]
      refine ⟨?_, r1, h1, vs, v, h', q1, rv, e2, fun v2 r2 H2 st2 q2 rv2 => post v2 r2 H2 (st.trans st2) q2 rv2⟩
      rw [← rv.length, evalCs_len e1 hk, hl]
    cases l with
    | nil => exact PE.w (pe_call0 ok rm (gl_of hg) hm kp bd .nil pass0 hd) body
    | cons e es' =>
      have h1 := star_each (es := es') (env := X.env) (hs e List.mem_cons_self)
      have h2 : (backTo pos (starEach es' X.env)).any (·.1) = false := by
        have := any_star (env := X.env) (pos := pos) (es := es') fun x hx => hs x (List.mem_cons_of_mem _ hx)
        unfold backTo
        rw [List.any_map]
        exact this
      exact PE.w (pe_call ok rm (gl_of hg) hm kp bd .nil pass0 (paW hs) hd h1 h2) body
  · cases hc
theorem bi_step {X : Cx} {f : Bi} {es : CEs} {l : List Expr} {p pos : Pos} (W : Wd g F X) (sa : SA F X es l) (hk : chkEs g X.env.scope es l = true) (hn : l ≠ []) (hf : ∀ t, f ≠ .isi t) (hg : glB X.env.scope (Str.ofString (biN f)) = true) : SE F X (.bi f es) (.Call (.Name (Str.ofString (biN f)) p) l [] pos) := by
  intro s σ r H h v h' Q re q ev post
  simp only [evalC, Option.bind_eq_some_iff] at ev
  obtain ⟨⟨vs, h1⟩, e1, e2⟩ := ev
  refine PE.w (pe_bi W (gl_of hg) (paW (chkEs_star hk)) (chkEs_star hk) hn hf) ?_
  refine sa s σ r H h vs h1 _ re q e1 fun us r1 H1 st q1 rv => ?_
  exact bi_ok W.calm W.un q1 hf rv e2 fun v2 r2 H2 st2 q2 rv2 => post v2 r2 H2 (st.trans st2) q2 rv2
theorem isi_step {X : Cx} {t : Ty} {es : CEs} {ea : Expr} {p p2 pos : Pos} (W : Wd g F X) (sa : SA F X es [ea]) (hk : chkEs g X.env.scope es [ea] = true) (hg : glB X.env.scope "isinstance" = true) (hg2 : glB X.env.scope (Str.ofString (tyN t)) = true) :
    SE F X (.bi (.isi t) es) (.Call (.Name "isinstance" p) [ea, .Name (Str.ofString (tyN t)) p2] [] pos) := by
  intro s σ r H h v h' Q re q ev post
  simp only [evalC, Option.bind_eq_some_iff] at ev
  obtain ⟨⟨vs, h1⟩, e1, e2⟩ := ev
  have hs := chkEs_star hk
  have hlen := evalCs_len e1 hk
  have hb : PE X (.Name (Str.ofString (tyN t)) p2) (tC (.ty (tyN t))) := pe_bltn (gl_of hg2) (W.bl _ (ty_bl t)) (ty_boot t) rfl (ty_nm t).1 (ty_nm t).2
  refine PE.w (pe_callB (id := "isinstance") (callW (X := X)) (gl_of hg) (W.bl _ (by decide +kernel)) (by decide +kernel) (pa_cons (peW (X := X) (e := ea)) (pa_cons hb pa_nil) (star_each (hs ea List.mem_cons_self))) (by decide +kernel) (by decide +kernel) (star_each (hs ea List.mem_cons_self)) rfl) ?_
  obtain ⟨a, rfl⟩ : ∃ a, vs = [a] := by
    cases vs with
    | nil => simp at hlen
    | cons a t =>
      cases t with
      | nil => exact ⟨a, rfl⟩
      | cons b t => simp at hlen
  refine sa s σ r H h _ h1 (fun us H1 => wC X (.builtin "isinstance") (us ++ [.ty (tyN t)]) H1 Q) re q e1 fun us r1 H1 st q1 rv => ?_
  obtain ⟨u, rfl, rv1⟩ := rv.one
  simp only [biV, Option.map_eq_some_iff] at e2
  obtain ⟨b, e2, e3⟩ := e2
  cases e3
  exact isi_ok q1 rv1 e2 fun v2 r2 H2 st2 q2 rv2 => post v2 r2 H2 (st.trans st2) q2 rv2
theorem attr_base {X : Cx} {o : Expr} {nm : Str} (h : call0 o = false) : attributeBase o nm X.env (eval o X.env) = eval o X.env := by
  cases o <;> try rfl
  rename_i fn args kw p
  cases fn <;> try rfl
  cases args with
  | cons _ _ => rfl
  | nil =>
    cases kw with
    | cons _ _ => rfl
    | nil => simp [call0, asCall] at h
theorem me_step {X : Cx} {m : Me} {o : CE} {es : CEs} {eo : Expr} {l : List Expr} {ap pos : Pos} (W : Wd g F X) (so : SE F X o eo) (sa : SA F X es l) (hk : chkEs g X.env.scope es l = true) (hb : call0 eo = false) (hp : (ap.endLine == pos.line) = true) (hl : l.length ≤ 5) : SE F X (.me m o es) (.Call (.Attribute eo (Str.ofString (meN m)) ap) l [] pos) := by
  intro s σ r H h v h' Q re q ev post
  simp only [evalC, Option.bind_eq_some_iff] at ev
  obtain ⟨⟨ov, h1⟩, e1, e2⟩ := ev
  split at e2
  · rename_i hr
    rw [Option.bind_eq_some_iff] at e2
    obtain ⟨⟨vs, h2⟩, e2, e3⟩ := e2
    have hs := chkEs_star hk
    have body : tMe X (Str.ofString (meN m)) (wE X eo) (wA X l) σ H Q := by
      refine so s σ r H h ov h1 _ re q e1 fun x r1 H1 st q1 rv => ?_
      refine ⟨meT2 m ov, meI2 m ov, meId m ov, recv_ty q1 rv hr, ?_⟩
      refine sa s σ r1 H1 h1 vs h2 _ (re.step q st) q1 e2 fun us r2 H2 st2 q2 rvs => ?_
      exact me_ok W.un q2 (rv.step q1 st2) rvs e3 fun v2 r3 H3 st3 q3 rv3 => post v2 r3 H3 (st.trans (st2.trans st3)) q3 rv3
    cases l with
    | nil => exact PE.w (pe_mw0 peW (attr_base hb) hp) body
    | cons e es' =>
      have h1 := star_each (es := es') (env := X.env) (hs e List.mem_cons_self)
      have h2 : (backTo pos (starEach es' X.env)).any (·.1) = false := by
        have := any_star (env := X.env) (pos := pos) (es := es') fun x hx => hs x (List.mem_cons_of_mem _ hx)
        unfold backTo
        rw [List.any_map]
        exact this
      refine PE.w (pe_mw peW (paW hs) (attr_base hb) ?_ hp h1 h2) body
      have h3 : (backTo pos (starEach (e :: es') X.env)).all (fun x => !x.1) = true := by
        have := any_star (env := X.env) (pos := pos) (es := e :: es') hs
        unfold backTo
        rw [List.all_map]
        rw [List.any_eq_false] at this
        rw [List.all_eq_true]
        intro y hy
        have := this y hy
        simpa using this
      rw [h3]
      have h4 : (e :: es').length < 30 := by omega
      simp [keywordEach, backToKw] at h4 ⊢
      omega
  · cases e2
/-- stores in a block -/
theorem st_loc {own sc : Scope} {x : Str} (e : stB own sc x = true) : Loc sc x ∧ ((own.names.lookup x == some .cell) = true ∨ sc.names.lookup x = some .local) := by
  unfold stB at e
  split at e
  · exact ⟨.inl (by assumption), .inr (by assumption)⟩
  · split at e
    · rename_i h
      exact ⟨.inr (by assumption), .inl (by rw [h]; rfl)⟩
    · cases e
  · cases e
/-- readings of a block -/
def uE (X : Cx) (scope : Scope) (e : Expr) : TE := fun σ H Q => ∀ s0 H0 C cl fp, wE (fX X s0 H0 scope C cl fp) e σ H Q
def uT (X : Cx) (scope : Scope) (e : Expr) : TT := fun σ H Q => ∀ s0 H0 C cl fp, wT (fX X s0 H0 scope C cl fp) e σ H Q
def uIf (X : Cx) (scope : Scope) : List Expr → TT
  | [] => tYes
  | e :: _ => uT X scope e
theorem comp_step {X : Cx} {elt cond : CE} {i : Nat} {ee ei : Expr} {ifs : List Expr} {x : Str} {scope : Scope} {px pos : Pos} (W : Wd g F X) (hb : blkB g X.env.scope scope i x = true)
    (se : ∀ s0 H0 C cl fp, SE F (fX X s0 H0 scope C cl fp) elt ee) (hi : (∃ ec, ifs = [ec] ∧ ∀ s0 H0 C cl fp, ST F (fX X s0 H0 scope C cl fp) cond ec) ∨ (ifs = [] ∧ cond = .lit (.bl true))) {wi : TI} (pi : PI X (.Name x px) ei wi)
    (hset : isSet ei = false) : PE X (.ListComp ee [⟨.Name x px, ei, ifs, 0⟩] scope pos) (tLc wi (gName i) (uIf X scope ifs) (uE X scope ee) [i]) ∧ RdE F X elt (uE X scope ee) ∧ RdT F X cond (uIf X scope ifs) := by
  unfold blkB at hb
  simp only [Bool.and_eq_true, decide_eq_true_eq] at hb
  obtain ⟨⟨h1, h2⟩, h3⟩ := hb
  obtain ⟨l1, l2⟩ := st_loc h3
  refine ⟨?_, ?_, ?_⟩
  · refine pe_lc (own := [(x, i)]) W.calm W.nd pi (blkOk_by (by rw [W.nN]; exact h2)) (fun s0 H0 C cl fp => pg_name W.nd (by show X.N[i]? = some x; rw [W.nN]; exact h1) l1 l2) (fun s0 H0 C cl fp => ?_) (fun s0 H0 C cl fp => ⟨fun pins s σ H Q I h => h s0 H0 C cl fp pins s I⟩) (fold_of hset)
    rcases hi with ⟨ec, rfl, _⟩ | ⟨rfl, _⟩
    · exact pts_one ⟨fun pins s σ H Q I h => h s0 H0 C cl fp pins s I⟩
    · exact pts_nil
  · intro s σ r H h v h' Q re q ev post s0 H0 C cl fp
    exact se s0 H0 C cl fp s σ r H h v h' Q ⟨re.len, re.at'⟩ q ev post
  · intro s σ r H h b h' Q re q ev post
    rcases hi with ⟨ec, rfl, st⟩ | ⟨rfl, rfl⟩
    · intro s0 H0 C cl fp
      exact st s0 H0 C cl fp s σ r H h b h' Q ⟨re.len, re.at'⟩ q ev post
    · simp only [testC, Option.some.injEq, Prod.mk.injEq] at ev
      obtain ⟨rfl, rfl⟩ := ev
      exact post r H .refl q
end
end TH

set_option maxHeartbeats 8000000
/-! Expressions: by induction. -/
namespace TH
open PySem PySem.Spec PyProof.Rows L2
section
variable {g : Names} {F : Fns}
theorem pe_or' {X : Cx} {e : Expr} {t u : TE} (h : PE X e t) (k : PE X e u) : PE X e (fun σ H Q => t σ H Q ∨ u σ H Q) := ⟨fun pins s σ H Q I z => z.elim (h.run pins s σ H Q I) (k.run pins s σ H Q I)⟩
/-- a list as it is walked -/
theorem rj_cell {X : Cx} {r0 : Ren} {H0 : Hp} {n : Nat} {a : Addr} (z : r0[n]? = some a) : RJ X r0 H0 (.cell n) (Itl X.K a) := by
  intro i r H h st q
  show match (rdl h n).map (fun xs => xs[i]?) with
    | some (some x) => (Itl X.K a).go i H ∧ ∀ v H', (Itl X.K a).yld i H v H' → H' = H ∧ RV X.K r H x v
    | some none => (Itl X.K a).stop i H
    | none => True
  cases e : rdl h n with
  | none => trivial
  | some xs =>
    obtain ⟨vs, g, us, _⟩ := rdl_at q e (st.ix z)
    show match some xs[i]? with
      | some (some x) => (Itl X.K a).go i H ∧ ∀ v H', (Itl X.K a).yld i H v H' → H' = H ∧ RV X.K r H x v
      | some none => (Itl X.K a).stop i H
      | none => True
    cases e2 : xs[i]? with
    | none => exact ⟨vs, g, us.get_none e2⟩
    | some x =>
      obtain ⟨v, g2, rv⟩ := us.get e2
      refine ⟨⟨vs, v, g, g2⟩, fun w H' y => ⟨y.1, ?_⟩⟩
      have := y.2 vs g
      rw [g2] at this
      cases this
      exact rv
theorem rj_tup {X : Cx} {r0 : Ren} {H0 : Hp} {h0 : CH} {xs : List CV} {vs : List V} {a : Addr} (q0 : RH X.prog X.w X.K r0 h0 H0) (t : H0 a = some (.tup vs)) (us : RVs X.K r0 H0 xs vs) : RJ X r0 H0 (.tup xs) (Itt X.K a) := by
  intro i r H h st q
  have t2 := tup_step q0 st t
  have us2 := us.step q0 st
  show match some xs[i]? with
    | some (some x) => (Itt X.K a).go i H ∧ ∀ v H', (Itt X.K a).yld i H v H' → H' = H ∧ RV X.K r H x v
    | some none => (Itt X.K a).stop i H
    | none => True
  cases e2 : xs[i]? with
  | none => exact ⟨vs, SqT.of t2, us2.get_none e2⟩
  | some x =>
    obtain ⟨v, g2, rv⟩ := us2.get e2
    refine ⟨⟨vs, v, SqT.of t2, g2⟩, fun w H' y => ⟨y.1, ?_⟩⟩
    have := y.2 vs (SqT.of t2)
    rw [g2] at this
    cases this
    exact rv
theorem rj_str {X : Cx} {r0 : Ren} {H0 : Hp} {s : List Nat} : RJ X r0 H0 (.str s) (Its (toS s)) := by
  intro i r H h st q
  show match some (s[i]?.map fun c => CV.str [c]) with
    | some (some x) => (Its (toS s)).go i H ∧ ∀ v H', (Its (toS s)).yld i H v H' → H' = H ∧ RV X.K r H x v
    | some none => (Its (toS s)).stop i H
    | none => True
  cases e : s[i]? with
  | none =>
    show (toS s).cps.size ≤ i
    have := List.getElem?_eq_none_iff.mp e
    simpa [toS] using this
  | some c =>
    refine ⟨?_, fun v H' y => ⟨y.1, ?_⟩⟩
    · show i < (toS s).cps.size
      have := (List.getElem?_eq_some_iff.mp e).1
      simpa [toS] using this
    · obtain ⟨d, e1, rfl⟩ := y.2
      have : (toS s).cps[i]? = s[i]? := by simp [toS]
      rw [this, e] at e1
      cases e1
      exact .str [c]
theorem rj_ints {X : Cx} {r0 : Ren} {H0 : Hp} {lo : Int} {n : Nat} : RJ X r0 H0 (.ints lo n) (Itr lo n) := by
  intro i r H h st q
  show match some (if i < n then some (CV.int (lo + i)) else none) with
    | some (some x) => (Itr lo n).go i H ∧ ∀ v H', (Itr lo n).yld i H v H' → H' = H ∧ RV X.K r H x v
    | some none => (Itr lo n).stop i H
    | none => True
  by_cases z : i < n
  · rw [if_pos z]
    refine ⟨z, fun v H' y => ⟨y.1, ?_⟩⟩
    rw [y.2]; exact .int _
  · rw [if_neg z]
    exact Nat.le_of_not_lt z
theorem small_of {j : Int} (e : small62 j = true) : -(2 ^ 62) ≤ j ∧ j < 2 ^ 62 := by
  unfold small62 at e
  simpa using e
/-! ### a dict that is walked, locked -/
theorem lock_use {X : Cx} {r : Ren} {H : Hp} {h h1 : CH} {n : Nat} {a : Addr} (q : RH X.prog X.w X.K r h H) (z : r[n]? = some a) (e : lockC h n = some h1) :
    ∃ kvs u, h[n]? = some (.dct kvs) ∧ h1 = h.set n (.lkd kvs) ∧ H a = some u ∧ Mut (some u) ∧ (∀ o v, u ≠ .frz o v) ∧ RD X.K r H kvs u ∧ ∀ od, RH X.prog X.w X.K r h1 (upd H a (.frz od u)) := by
  unfold lockC at e
  split at e
  · rename_i kvs hm
    cases e
    obtain ⟨u, g, d⟩ := q.ob _ _ _ hm z
    have nf : ∀ (o : Obj) (v : HO), u ≠ .frz o v := fun o v y => by
      rcases d with ⟨es, rfl, _⟩ | ⟨es, rfl, _⟩ <;> cases y
    have nt : ∀ vs, u ≠ .tup vs := fun vs y => by
      rcases d with ⟨es, rfl, _⟩ | ⟨es, rfl, _⟩ <;> cases y
    refine ⟨kvs, u, hm, rfl, g, ?_, nf, d, fun od => ?_⟩
    · rcases d with ⟨es, rfl, _⟩ | ⟨es, rfl, _⟩ <;> trivial
    · refine q.write z (fun o v y => by rw [g] at y; cases y; exact nf o v rfl) ⟨od, u, upd_same, ?_⟩
      have ht : ∀ b v, Kp v → H b = some v → upd H a (.frz od u) b = some v := fun b v k y => by
        rw [upd_ne (fun w => by rw [w, g] at y; cases y; cases k with | tup vs => exact nt vs rfl | frz o vs => exact nf o _ rfl)]; exact y
      rcases d with ⟨es, e, d⟩ | ⟨es, e, d⟩
      · exact .inl ⟨es, e, Paired.mapP d fun _ _ z => ⟨z.1, z.2.keep ht fun _ _ e => e⟩⟩
      · exact .inr ⟨es, e, Paired.mapP d fun _ _ z => ⟨z.1, z.2.keep ht fun _ _ e => e⟩⟩
  · cases e
end
end TH

set_option maxHeartbeats 8000000
/-! The values of a dict whose keys are tuples, walked. -/
namespace TH
open PySem PySem.Spec PyProof.Rows L2
section
variable {X : Cx} {pins : List (Addr × Obj)} {σ : L2.St} {H : Hp} {s : Shared} {d : Addr} {od : Obj}
theorem frz_vals {kt : List (List Key × V)} (I : Inv X pins σ H s) (g : H d = some (.frz od (.dT kt))) :
    (d == sysModules) = false ∧ ∃ (ents : Array DictEntry) (epo : Nat), od.data = .dict ents epo ∧ ents.size = kt.length ∧ s.heap.DictRaw d ents epo ∧
      ∀ (j : Nat) (ks : List Key) (y : V), kt[j]? = some (ks, y) → ∃ en : DictEntry, ents[j]? = some en ∧ RelV y en.val := by
  obtain ⟨g1, z, g2, zs, pr, o2, ents, epo, g3, g4, g5, g6, _⟩ := I.hok d _ g
  rw [g1] at g3
  cases g3
  refine ⟨g2, ents, epo, g5, ?_, ⟨od, g1, g4, g5⟩, fun j ks y e => ?_⟩
  · rw [size_of_entries g6, ← Paired.length pr]
  · obtain ⟨t, h1, _, _, h2⟩ := paired_get pr e
    have h3 := entry_at g6 j
    rw [h1] at h3
    exact ⟨_, h3, h2⟩
/-- the values in their order -/
def ItV (d : Addr) (od : Obj) (kt : List (List Key × V)) : It where
  go := fun j H => H d = some (.frz od (.dT kt)) ∧ j < kt.length
  yld := fun j H x H' => H' = H ∧ ∃ ks, kt[j]? = some (ks, x)
  stop := fun j H => H d = some (.frz od (.dT kt)) ∧ kt.length ≤ j
theorem data_same {o : Obj} {a b : Array DictEntry} {m n : Nat} (h : o.data = .dict a m) (k : o.data = .dict b n) : b = a ∧ n = m := by
  rw [h] at k
  cases k
  exact ⟨rfl, rfl⟩
theorem turn_valT {P : Program} {w : World} {K : PySem.W.Frag} {tg : Expr} {ents : Array DictEntry} {epo : Nat} {kt : List (List Key × V)} (it : Addr) (hne : d ≠ it) (hz : ents.size = kt.length) (hd0 : od.data = .dict ents epo) :
    Turn P w K tg (ItV d od kt) [it] it (fun j h => h.IsValIter it d j ents.size epo) where
  mem := List.mem_singleton.mpr rfl
  obj := fun j h st b hb => by
    rw [List.mem_singleton.mp hb]
    obtain ⟨oo, e1, _, e2⟩ := st
    exact ⟨oo, e1, fun v y => by rw [e2] at y; cases y⟩
  keep := fun j h h' st k => st.at fun oo e => k it (List.mem_singleton.mpr rfl) oo e
  item := by
    intro X e1 e2 e3 calm j pins s σ H E I hf st hg
    subst e1 e2 e3
    obtain ⟨g1, g2⟩ := hg
    obtain ⟨f0, f1, _, f3, f4, f5⟩ := hf it (List.mem_singleton.mpr rfl)
    obtain ⟨_, ents2, epo2, k1, k2, k3, k4⟩ := frz_vals I g1
    obtain ⟨rfl, rfl⟩ := data_same hd0 k1
    obtain ⟨⟨ks, y⟩, hy⟩ : ∃ p, kt[j]? = some p := ⟨_, List.getElem?_eq_getElem g2⟩
    obtain ⟨en, m1, m2⟩ := k4 j ks y hy
    have hlt : j < ents2.size := by rw [hz]; exact g2
    have hen : ents2[j] = en := by
      rw [Array.getElem?_eq_getElem hlt] at m1
      exact Option.some.inj m1
    refine wpAny_pyNext_values_item_raw st k3 hlt fun h2 st2 sb => ?_
    have J : Inv X pins σ H { s with heap := h2 } := I.turned (t' := s.toks) (fun b ob nb e => (sb.2 b nb).trans e) f0 f1 f3 f4 f5
    obtain ⟨oo, q1, q2, q3⟩ := id st2
    rw [hen]
    exact ⟨en.val, rfl, go_of (s := { s with heap := h2 }) q1 q2 q3 (by decide) ⟨y, H, J, m2, ⟨rfl, ks, hy⟩, st2, fun b hb => (hf b hb).1⟩⟩
  done := by
    intro X e1 e2 e3 calm j pins s σ H E I hf st hg
    subst e1 e2 e3
    obtain ⟨g1, g2⟩ := hg
    obtain ⟨f0, f1, _, f3, f4, f5⟩ := hf it (List.mem_singleton.mpr rfl)
    obtain ⟨_, ents2, epo2, k1, k2, k3, k4⟩ := frz_vals I g1
    obtain ⟨rfl, rfl⟩ := data_same hd0 k1
    refine wpAny_pyNext_values_end_raw (I.ok.hd calm) st k3 (by rw [hz]; exact g2) fun h2 eb => ?_
    exact ⟨rfl, I.turned (t' := s.toks) (fun b ob nb e => eb b ob nb e) f0 f1 f3 f4 f5⟩
  self := fun A j s Q E st q => wpAny_pyIter_valiter st q
def iValT (td : TE) : TI := fun σ H R => td σ H fun x H1 => ∃ (d : Addr) (od : Obj) (kt : List (List Key × V)), x = .ref d ∧ H1 d = some (.frz od (.dT kt)) ∧ R (ItV d od kt) H1
theorem pi_valT {tg e : Expr} {td : TE} {ap cp : Pos} (he : PE X e td) (hb : attributeBase e "values" X.env (eval e X.env) = eval e X.env) (hl : (ap.endLine == cp.line) = true) :
    PI X tg (.Call (.Attribute e "values" ap) [] [] cp) (iValT td) := by
  refine ⟨fun pins s σ H R I h => ?_⟩
  refine wpAny_Call_method (T := "dict") (id := "dict.values") hb rfl hl F.plainAttrs_dict F.slot_dict_values F.type_dict_values ?_
  refine thn (he.run pins s σ H _ I h) fun u s1 ⟨x, H1, I1, rx, d, od, kt, ex, hd, q⟩ => ?_
  subst ex
  obtain rfl : u = Value.ref d := rx
  obtain ⟨hs, ents, epo, k1, k2, k3, _⟩ := frz_vals I1 hd
  have ty := k3.typeIs
  refine ⟨ty, ?_, ?_⟩
  · intro b e
    cases e
    obtain ⟨oo, m1, m2, _⟩ := k3
    exact ⟨oo, m1, m2.2.1⟩
  have I2 : Inv X pins σ H1 { s1 with heap := s1.heap.push { cls := .type "dict_values", data := .fields #[.ref d] } } :=
    I1.kept (t' := s1.toks) fun b ob q => Heap.get?_push_of_some _ q
  have fin : wpAny (model X.prog X.w) X.A (pyIter (.ref s1.heap.objs.size)) (PIE X pins σ tg R) X.xe
      { s1 with heap := s1.heap.push { cls := .type "dict_values", data := .fields #[.ref d] } } := by
    refine wpAny_pyIter_values_raw (d := d) (es := ents) (ep := epo) ⟨_, Heap.get?_push_size _ rfl, rfl, rfl⟩ (k3.at fun _ e => Heap.get?_push_of_some _ e) ?_
    refine pi_one (tk := s1.toks) I2 _ (turn_valT _ ?_ k2 k1) ⟨_, Heap.get?_push_size _ rfl, rfl, rfl⟩ q
    obtain ⟨oo, m1, _⟩ := k3
    have := Heap.lt_size (Heap.get?_push_of_some { cls := .type "dict_values", data := .fields #[.ref d] } m1)
    exact Nat.ne_of_lt this
  show wpAny _ _ (callWith cp (.builtin "dict.values") [.ref d] [] []) _ X.xe s1
  exact method_meetsIn F.slot_dict_values F.entry_dict_values rfl
    (PySem.evalArgs_none ⟨rfl, ty, F.args_dict_values_1 _, _, meets_dict_values_raw d hs, ⟨⟨ents, epo, k3⟩, fin⟩⟩)
end
end TH

set_option maxHeartbeats 8000000
/-! A comprehension over a dict. -/
namespace TH
open PySem PySem.Spec PyProof.Rows L2
section
variable {g : Names} {F : Fns}
theorem toS_of (x : Str) : toS x.cps.toList = x := by cases x; simp [toS]
theorem rv_keyO {X : Cx} {r : Ren} {H : Hp} : ∀ k : Key, RV X.K r H (ofKey k) (kV k)
  | .inl i => .int i
  | .inr x => by
    have : RV X.K r H (.str x.cps.toList) (.str (toS x.cps.toList)) := .str _
    rw [toS_of] at this; exact this
theorem rv_keys {X : Cx} {r : Ren} {H : Hp} : ∀ ks : List Key, RVs X.K r H (ks.map ofKey) (ks.map kV)
  | [] => .nil
  | k :: ks => .cons (rv_keyO k) (rv_keys ks)
theorem lkd_at {X : Cx} {r : Ren} {H : Hp} {h : CH} {n : Nat} {a : Addr} {od : Obj} {u : HO} {kvs : List (CV × CV)} (q : RH X.prog X.w X.K r h H) (z : r[n]? = some a) (e : H a = some (.frz od u)) (hm : h[n]? = some (.lkd kvs)) : RD X.K r H kvs u := by
  obtain ⟨o, u', g, d⟩ := q.ob _ _ _ hm z
  rw [e] at g
  cases g
  exact d
theorem rd_len {X : Cx} {r : Ren} {H : Hp} {kvs : List (CV × CV)} {es : List (Key × V)} (d : RD X.K r H kvs (.dK es)) : RKV X.K r H kvs es := by
  rcases d with ⟨_, e, d⟩ | ⟨_, e, _⟩
  · cases e; exact d
  · cases e
theorem rd_lenT {X : Cx} {r : Ren} {H : Hp} {kvs : List (CV × CV)} {es : List (List Key × V)} (d : RD X.K r H kvs (.dT es)) : RTV X.K r H kvs es := by
  rcases d with ⟨_, e, _⟩ | ⟨_, e, d⟩
  · cases e
  · cases e; exact d
theorem paired_get2 {α β : Type} {G : α → β → Prop} : ∀ {l₁ : List α} {l₂ : List β}, Paired G l₁ l₂ → ∀ {i : Nat}, (l₁[i]? = none ∧ l₂.length ≤ i) ∨ ∃ a b, l₁[i]? = some a ∧ l₂[i]? = some b ∧ G a b
  | _, _, .nil, i => .inl ⟨rfl, Nat.zero_le _⟩
  | _, _, .cons r t, 0 => .inr ⟨_, _, rfl, rfl, r⟩
  | _, _, .cons r t, i + 1 => by
    rcases paired_get2 t (i := i) with ⟨a, b⟩ | ⟨a, b, c, d, e⟩
    · exact .inl ⟨by simpa using a, by simpa using b⟩
    · exact .inr ⟨a, b, by simpa using c, by simpa using d, e⟩
theorem rj_keysK {X : Cx} {r0 : Ren} {H0 : Hp} {n : Nat} {a : Addr} {od : Obj} {es : List (Key × V)} (z : r0[n]? = some a) (e : H0 a = some (.frz od (.dK es))) : RJ X r0 H0 (.keys n) (Itk a od es) := by
  intro i r H h st q
  have e2 := st.frz a od _ e
  show match (match h[n]? with | some (.lkd kvs) => some (kvs[i]?.map (·.1)) | _ => none) with
    | some (some x) => (Itk a od es).go i H ∧ ∀ v H', (Itk a od es).yld i H v H' → H' = H ∧ RV X.K r H x v
    | some none => (Itk a od es).stop i H
    | none => True
  split
  · rename_i x hx
    split at hx
    · rename_i kvs hm
      have d := rd_len (lkd_at q (st.ix z) e2 hm)
      rw [Option.some.injEq, Option.map_eq_some_iff] at hx
      obtain ⟨p, hp, rfl⟩ := hx
      rcases paired_get2 d (i := i) with ⟨y, _⟩ | ⟨p', b, g1, g2, g3⟩
      · rw [hp] at y; cases y
      rw [hp] at g1; cases g1
      refine ⟨⟨e2, (List.getElem?_eq_some_iff.mp g2).1⟩, fun v H' y => ⟨y.1, ?_⟩⟩
      obtain ⟨k, v', g4, rfl⟩ := y.2
      rw [g2] at g4; cases g4
      rw [g3.1]; exact rv_keyO k
    · cases hx
  · rename_i hx
    split at hx
    · rename_i kvs hm
      have d := rd_len (lkd_at q (st.ix z) e2 hm)
      rw [Option.some.injEq, Option.map_eq_none_iff] at hx
      rcases paired_get2 d (i := i) with ⟨_, y⟩ | ⟨p', b, g1, g2, g3⟩
      · exact ⟨e2, y⟩
      · rw [hx] at g1; cases g1
    · cases hx
  · trivial
theorem rj_keysT {X : Cx} {r0 : Ren} {H0 : Hp} {n : Nat} {a : Addr} {od : Obj} {es : List (List Key × V)} (z : r0[n]? = some a) (e : H0 a = some (.frz od (.dT es))) : RJ X r0 H0 (.keys n) (Itkt a od es) := by
  intro i r H h st q
  have e2 := st.frz a od _ e
  show match (match h[n]? with | some (.lkd kvs) => some (kvs[i]?.map (·.1)) | _ => none) with
    | some (some x) => (Itkt a od es).go i H ∧ ∀ v H', (Itkt a od es).yld i H v H' → H' = H ∧ RV X.K r H x v
    | some none => (Itkt a od es).stop i H
    | none => True
  split
  · rename_i x hx
    split at hx
    · rename_i kvs hm
      have d := rd_lenT (lkd_at q (st.ix z) e2 hm)
      rw [Option.some.injEq, Option.map_eq_some_iff] at hx
      obtain ⟨p, hp, rfl⟩ := hx
      rcases paired_get2 d (i := i) with ⟨y, _⟩ | ⟨p', b, g1, g2, g3⟩
      · rw [hp] at y; cases y
      rw [hp] at g1; cases g1
      refine ⟨⟨e2, (List.getElem?_eq_some_iff.mp g2).1⟩, fun v H' y => ⟨y.1, ?_⟩⟩
      obtain ⟨k, v', qq, g4, rfl, g5⟩ := y.2
      rw [g2] at g4; cases g4
      rw [g3.1]; exact .tup g5 (rv_keys k)
    · cases hx
  · rename_i hx
    split at hx
    · rename_i kvs hm
      have d := rd_lenT (lkd_at q (st.ix z) e2 hm)
      rw [Option.some.injEq, Option.map_eq_none_iff] at hx
      rcases paired_get2 d (i := i) with ⟨_, y⟩ | ⟨p', b, g1, g2, g3⟩
      · exact ⟨e2, y⟩
      · rw [hx] at g1; cases g1
    · cases hx
  · trivial
theorem rj_valsK {X : Cx} {r0 : Ren} {H0 : Hp} {n : Nat} {a : Addr} {od : Obj} {es : List (Key × V)} (z : r0[n]? = some a) (e : H0 a = some (.frz od (.dK es))) : RJ X r0 H0 (.vals n) (Itd a od es) := by
  intro i r H h st q
  have e2 := st.frz a od _ e
  show match (match h[n]? with | some (.lkd kvs) => some (kvs[i]?.map (·.2)) | _ => none) with
    | some (some x) => (Itd a od es).go i H ∧ ∀ v H', (Itd a od es).yld i H v H' → H' = H ∧ RV X.K r H x v
    | some none => (Itd a od es).stop i H
    | none => True
  split
  · rename_i x hx
    split at hx
    · rename_i kvs hm
      have d := rd_len (lkd_at q (st.ix z) e2 hm)
      rw [Option.some.injEq, Option.map_eq_some_iff] at hx
      obtain ⟨p, hp, rfl⟩ := hx
      rcases paired_get2 d (i := i) with ⟨y, _⟩ | ⟨p', b, g1, g2, g3⟩
      · rw [hp] at y; cases y
      rw [hp] at g1; cases g1
      refine ⟨⟨e2, (List.getElem?_eq_some_iff.mp g2).1⟩, fun v H' y => ⟨y.1, ?_⟩⟩
      obtain ⟨k, g4⟩ := y.2
      rw [g2] at g4; cases g4
      exact g3.2
    · cases hx
  · rename_i hx
    split at hx
    · rename_i kvs hm
      have d := rd_len (lkd_at q (st.ix z) e2 hm)
      rw [Option.some.injEq, Option.map_eq_none_iff] at hx
      rcases paired_get2 d (i := i) with ⟨_, y⟩ | ⟨p', b, g1, g2, g3⟩
      · exact ⟨e2, y⟩
      · rw [hx] at g1; cases g1
    · cases hx
  · trivial
theorem rj_valsT {X : Cx} {r0 : Ren} {H0 : Hp} {n : Nat} {a : Addr} {od : Obj} {es : List (List Key × V)} (z : r0[n]? = some a) (e : H0 a = some (.frz od (.dT es))) : RJ X r0 H0 (.vals n) (ItV a od es) := by
  intro i r H h st q
  have e2 := st.frz a od _ e
  show match (match h[n]? with | some (.lkd kvs) => some (kvs[i]?.map (·.2)) | _ => none) with
    | some (some x) => (ItV a od es).go i H ∧ ∀ v H', (ItV a od es).yld i H v H' → H' = H ∧ RV X.K r H x v
    | some none => (ItV a od es).stop i H
    | none => True
  split
  · rename_i x hx
    split at hx
    · rename_i kvs hm
      have d := rd_lenT (lkd_at q (st.ix z) e2 hm)
      rw [Option.some.injEq, Option.map_eq_some_iff] at hx
      obtain ⟨p, hp, rfl⟩ := hx
      rcases paired_get2 d (i := i) with ⟨y, _⟩ | ⟨p', b, g1, g2, g3⟩
      · rw [hp] at y; cases y
      rw [hp] at g1; cases g1
      refine ⟨⟨e2, (List.getElem?_eq_some_iff.mp g2).1⟩, fun v H' y => ⟨y.1, ?_⟩⟩
      obtain ⟨k, g4⟩ := y.2
      rw [g2] at g4; cases g4
      exact g3.2
    · cases hx
  · rename_i hx
    split at hx
    · rename_i kvs hm
      have d := rd_lenT (lkd_at q (st.ix z) e2 hm)
      rw [Option.some.injEq, Option.map_eq_none_iff] at hx
      rcases paired_get2 d (i := i) with ⟨_, y⟩ | ⟨p', b, g1, g2, g3⟩
      · exact ⟨e2, y⟩
      · rw [hx] at g1; cases g1
    · cases hx
  · trivial
/-- behind the lock -/
theorem unlock_use {X : Cx} {r r' : Ren} {H H' : Hp} {h2 h3 : CH} {n : Nat} {a : Addr} {od : Obj} {u : HO} (z : r[n]? = some a) (g : H a = some u) (nf : ∀ o v, u ≠ .frz o v) (nt : ∀ vs, u ≠ .tup vs) (nl : ∀ vs, u ≠ .lst vs) (st : Step r (upd H a (.frz od u)) r' H')
    (q2 : RH X.prog X.w X.K r' h2 H') (e : unlockC h2 n = some h3) : H' a = some (.frz od u) ∧ Step r H r' (upd H' a u) ∧ RH X.prog X.w X.K r' h3 (upd H' a u) := by
  have ea := st.frz a od u upd_same
  have ma : a ∈ r := List.mem_of_getElem? z
  refine ⟨ea, ⟨st.pre, fun b o e nb => ?_, fun b o v e => ?_, fun b h1 h2 => ?_⟩, ?_⟩
  · have ne : b ≠ a := fun y => nb (by rw [y]; exact ma)
    rw [upd_ne ne]; exact st.keep b o (by rw [upd_ne ne]; exact e) nb
  · have ne : b ≠ a := fun y => nf o v (by rw [y, g] at e; cases e; rfl)
    rw [upd_ne ne]; exact st.frz b o v (by rw [upd_ne ne]; exact e)
  · have ne : b ≠ a := fun y => h2 (by rw [y]; exact ma)
    have := st.new b h1 h2
    rwa [upd_ne ne] at this
  · unfold unlockC at e
    split at e
    · rename_i kvs hm
      cases e
      have d := lkd_at q2 (st.ix z) ea hm
      have ht : ∀ b v, Kp v → H' b = some v → upd H' a u b = some v := fun b v k y => by
        rw [upd_ne (fun w => by rw [w, ea] at y; cases y; cases k; exact nl _ rfl)]; exact y
      refine ⟨by simp [q2.len], q2.nd, fun m c b e1 e2 => ?_⟩
      by_cases hmn : m = n
      · subst hmn
        have hl : m < h2.length := (List.getElem?_eq_some_iff.mp hm).1
        rw [List.getElem?_set_self hl] at e1
        rw [st.ix z] at e2
        cases e1
        cases e2
        refine ⟨u, upd_same, ?_⟩
        rcases d with ⟨es, e, d⟩ | ⟨es, e, d⟩
        · exact .inl ⟨es, e, Paired.mapP d fun _ _ z => ⟨z.1, z.2.keep ht fun _ _ e => e⟩⟩
        · exact .inr ⟨es, e, Paired.mapP d fun _ _ z => ⟨z.1, z.2.keep ht fun _ _ e => e⟩⟩
      · rw [List.getElem?_set_ne (Ne.symm hmn)] at e1
        exact (q2.ob m c b e1 e2).keep ht (fun _ _ e => e) (upd_ne fun y => hmn (nd_ix q2.nd e2 (by rw [y]; exact st.ix z)))
    · cases e
theorem compD_core {X : Cx} {elt cond : CE} {i d : Nat} {ee ei : Expr} {ifs : List Expr} {x : Str} {scope : Scope} {px pos : Pos} {vl : Bool} (W : Wd g F X) (hb : blkB g X.env.scope scope i x = true)
    (se : ∀ s0 H0 C cl fp, SE F (fX X s0 H0 scope C cl fp) elt ee) (hi : (∃ ec, ifs = [ec] ∧ ∀ s0 H0 C cl fp, ST F (fX X s0 H0 scope C cl fp) cond ec) ∨ (ifs = [] ∧ cond = .lit (.bl true)))
    (hv : (vl = false ∧ ∃ y py, ei = .Name y py ∧ nmOk g X.env.scope d y = true) ∨ (vl = true ∧ ∃ y py ap p, ei = .Call (.Attribute (.Name y py) "values" ap) [] [] p ∧ nmOk g X.env.scope d y = true ∧ (ap.endLine == p.line) = true))
    {s : Env} {σ : L2.St} {r : Ren} {H : Hp} {h : CH} {v : CV} {h' : CH} {Q : VK} (re : RE X r H s σ) (q : RH X.prog X.w X.K r h H) (ev : evalC F (.compD elt i vl d cond) s h = some (v, h')) (post : PostE X r H v h' Q)
    {G : List (Addr × Obj) → Shared → Prop}
    (fn : ∀ wi, PI X (.Name x px) ei wi → isSet ei = false → (∃ a u, H a = some u ∧ Mut (some u) ∧ ∀ od, tLc wi (gName i) (uIf X scope ifs) (uE X scope ee) [i] σ (upd H a (.frz od u)) (fun v H' => H' a = some (.frz od u) ∧ Q v (upd H' a u))) → ∀ pins s1, Inv X pins σ H s1 → G pins s1) :
    ∀ pins s1, Inv X pins σ H s1 → G pins s1 := by
  simp only [evalC] at ev
  split at ev
  · rename_i n hd
    rw [Option.bind_eq_some_iff] at ev
    obtain ⟨h1, e1, ev⟩ := ev
    rw [Option.bind_eq_some_iff] at ev
    obtain ⟨⟨acc2, h2⟩, e2, ev⟩ := ev
    rw [Option.bind_eq_some_iff] at ev
    obtain ⟨h3, e3, ev⟩ := ev
    obtain ⟨w, hw, rw_⟩ := re.at' d _ hd
    cases rw_ with | @ref _ a z =>
    obtain ⟨kvs, u, hm, rfl, ga, mu, nf, dd, ql⟩ := lock_use q z e1
    have nt : ∀ vs, u ≠ .tup vs := fun vs y => by
      rcases dd with ⟨es, rfl, _⟩ | ⟨es, rfl, _⟩ <;> cases y
    have nl : ∀ vs, u ≠ .lst vs := fun vs y => by
      rcases dd with ⟨es, rfl, _⟩ | ⟨es, rfl, _⟩ <;> cases y
    have stl : ∀ od, ∀ b v, Kp v → H b = some v → upd H a (.frz od u) b = some v := fun od b v k y => by
      rw [upd_ne (fun w => by rw [w, ga] at y; cases y; cases k with | tup vs => exact nt vs rfl | frz o vs => exact nf o _ rfl)]; exact y
    have rel : ∀ od, RE X r (upd H a (.frz od u)) s σ := fun od => ⟨re.len, fun j x e => let ⟨v, a, b⟩ := re.at' j x e; ⟨v, a, b.keep (stl od) fun _ _ e => e⟩⟩
    have len : (Src.keys n).len (h.set n (.lkd kvs)) = kvs.length := by
      show (match (h.set n (.lkd kvs))[n]? with | some (.lkd kvs) => kvs.length | _ => 0) = _
      rw [List.getElem?_set_self (List.getElem?_eq_some_iff.mp hm).1]
    rw [len] at e2
    have fin : ∀ (J : Obj → It) (wi : TI), PI X (.Name x px) ei wi → isSet ei = false → (∀ od R, R (J od) (upd H a (.frz od u)) → wi σ (upd H a (.frz od u)) R) → (∀ od, RJ X r (upd H a (.frz od u)) (if vl = true then .vals n else .keys n) (J od)) → kvs.length ≤ lim →
        ∀ pins s1, Inv X pins σ H s1 → G pins s1 := by
      intro J wi pi hset hwi rj hl
      obtain ⟨pe, hel, hct⟩ := comp_step (pos := pos) W hb se hi pi hset
      refine fn wi pi hset ⟨a, u, ga, mu, fun od => ?_⟩
      refine hwi od _ ?_
      intro D hD
      refine comp_loop (Q := fun v H' => H' a = some (.frz od u) ∧ Q v (upd H' a u)) (rj od) (ql od) (rel od) hel hct hl e2 D hD fun r' H' av st q' nD eD ra => ?_
      have hDa : D ≠ a := fun y => by rw [y, upd_same] at hD; cases hD
      obtain ⟨g1, g2, g3⟩ := unlock_use z ga nf nt nl st q' e3
      refine ⟨g1, ?_⟩
      have hD0 : H D = none := by rw [upd_ne hDa] at hD; exact hD
      have ra' : RVs X.K r' (upd H' a u) acc2 av := ra.keep (fun b v k y => by rw [upd_ne (fun w => by rw [w, g1] at y; cases y; cases k; exact nl _ rfl)]; exact y) fun _ _ e => e
      exact comp_post q .refl hD0 ev post r' (upd H' a u) av g2 g3 nD (by rw [upd_ne hDa]; exact eD) ra'
    have hlen : ∀ (k : kvs.length ≤ lim → ∀ pins s1, Inv X pins σ H s1 → G pins s1), ∀ pins s1, Inv X pins σ H s1 → G pins s1 := by
      intro k pins s1 I
      refine k ?_ pins s1 I
      rcases dd with ⟨es, rfl, dd⟩ | ⟨es, rfl, dd⟩
      · rw [Paired.length dd, lim_eq]
        exact (dk_of I.hok ga).1
      · rw [Paired.length dd, lim_eq]
        exact (dt_of I.hok ga).1
    refine hlen fun hl => ?_
    rcases hv with ⟨rfl, y, py, rfl, hy⟩ | ⟨rfl, y, py, ap, p, rfl, hy, hln⟩
    · obtain ⟨n1, n2, n3, n4⟩ := nmOk_of W hy
      rcases dd with ⟨es, rfl, dd⟩ | ⟨es, rfl, dd⟩
      · exact fin (fun od => Itk a od es) _ (pi_keys (pe_var n1 n2 n3 n4)) rfl (fun od R hR => ⟨.ref a, hw, a, od, rfl, .inl ⟨es, upd_same, hR⟩⟩) (fun od => rj_keysK z upd_same) hl
      · exact fin (fun od => Itkt a od es) _ (pi_keys (pe_var n1 n2 n3 n4)) rfl (fun od R hR => ⟨.ref a, hw, a, od, rfl, .inr ⟨es, upd_same, hR⟩⟩) (fun od => rj_keysT z upd_same) hl
    · obtain ⟨n1, n2, n3, n4⟩ := nmOk_of W hy
      rcases dd with ⟨es, rfl, dd⟩ | ⟨es, rfl, dd⟩
      · exact fin (fun od => Itd a od es) _ (pi_values (pe_var n1 n2 n3 n4) rfl hln) rfl (fun od R hR => ⟨.ref a, hw, a, od, es, rfl, upd_same, hR⟩) (fun od => rj_valsK z upd_same) hl
      · exact fin (fun od => ItV a od es) _ (pi_valT (pe_var n1 n2 n3 n4) rfl hln) rfl (fun od R hR => ⟨.ref a, hw, a, od, es, rfl, upd_same, hR⟩) (fun od => rj_valsT z upd_same) hl
  · cases ev
theorem compD_step {X : Cx} {elt cond : CE} {i d : Nat} {ee ei : Expr} {ifs : List Expr} {x : Str} {scope : Scope} {px pos : Pos} {vl : Bool} (W : Wd g F X) (hb : blkB g X.env.scope scope i x = true)
    (se : ∀ s0 H0 C cl fp, SE F (fX X s0 H0 scope C cl fp) elt ee) (hi : (∃ ec, ifs = [ec] ∧ ∀ s0 H0 C cl fp, ST F (fX X s0 H0 scope C cl fp) cond ec) ∨ (ifs = [] ∧ cond = .lit (.bl true)))
    (hv : (vl = false ∧ ∃ y py, ei = .Name y py ∧ nmOk g X.env.scope d y = true) ∨ (vl = true ∧ ∃ y py ap p, ei = .Call (.Attribute (.Name y py) "values" ap) [] [] p ∧ nmOk g X.env.scope d y = true ∧ (ap.endLine == p.line) = true)) :
    SE F X (.compD elt i vl d cond) (.ListComp ee [⟨.Name x px, ei, ifs, 0⟩] scope pos) := by
  intro s σ r H h v h' Q re q ev post
  exact compD_core (px := px) (pos := pos) W hb se hi hv re q ev post fun wi pi hset hw => PE.w (pe_lock (comp_step (pos := pos) W hb se hi pi hset).1) hw
end
end TH

set_option maxHeartbeats 8000000
/-! xs[::-1], a list or a tuple. -/
namespace HT
open PySem PySem.Spec PyProof.Rows L2
section
variable {prog : Program} {w : World} {A : Around} {E : Value → Shared → Prop} {s : Shared}
theorem adjust_rev (n : Nat) : Builtin.Slice.sliceAdjust none none (-1) (n : Int) = ((n : Int) - 1, -1) := by
  unfold Builtin.Slice.sliceAdjust
  simp only [show ((-1 : Int) < 0) from by omega, if_true]
theorem places_rev (n : Nat) : Builtin.Slice.slicePlaces ((n : Int) - 1) (-1) (-1) = n := by
  unfold Builtin.Slice.slicePlaces
  have e1 : -(-1 : Int) = 1 := rfl
  simp only [show ¬ ((-1 : Int) > 0) from by omega, if_false, e1, Int.ediv_one]
  split <;> omega
theorem pick_rev (xs : Array Value) : ((List.range xs.size).filterMap fun (m : Nat) => xs[((xs.size : Int) - 1 + (m : Int) * -1).toNat]?).toArray = xs.toList.reverse.toArray := by
  congr 1
  refine List.ext_getElem? fun i => ?_
  have key : (List.range xs.size).filterMap (fun (m : Nat) => xs[((xs.size : Int) - 1 + (m : Int) * -1).toNat]?) = (List.range xs.size).pmap (fun m (h : m < xs.size) => xs[xs.size - 1 - m]'(by omega)) (fun m hm => List.mem_range.mp hm) := by
    have : ∀ (l : List Nat) (hl : ∀ m ∈ l, m < xs.size), l.filterMap (fun (m : Nat) => xs[((xs.size : Int) - 1 + (m : Int) * -1).toNat]?) = l.pmap (fun m (h : m < xs.size) => xs[xs.size - 1 - m]'(by omega)) hl := by
      intro l
      induction l with
      | nil => intro _; rfl
      | cons a l ih =>
        intro hl
        have ha := hl a (by simp)
        have e : ((xs.size : Int) - 1 + (a : Int) * -1).toNat = xs.size - 1 - a := by omega
        rw [List.filterMap_cons, e, Array.getElem?_eq_getElem (by omega), List.pmap_cons]
        simp only
        rw [ih fun m hm => hl m (by simp [hm])]
    exact this _ _
  rw [key]
  rcases Nat.lt_or_ge i xs.size with hi | hi
  · rw [List.getElem?_eq_getElem (by simpa using hi), List.getElem?_eq_getElem (by simpa using hi)]
    simp [List.getElem_reverse]
  · rw [List.getElem?_eq_none (by simpa using hi), List.getElem?_eq_none (by simpa using hi)]
theorem sliceApplied_rev {sl : Addr} {vl vu vs : Value} {n : Nat} {Q : Int × Int × Nat → Shared → Prop} (hs : s.heap.IsSliceOf sl vl vu vs) (pl : IsPart vl none) (pu : IsPart vu none) (ps : IsPart vs (some (-1)))
    (h : Q ((n : Int) - 1, -1, n) s) : wpAny (model prog w) A (Builtin.Slice.sliceApplied (.ref sl) (pure (n : Int))) Q E s := by
  obtain ⟨os, hos, hcs, hds⟩ := id hs
  unfold Builtin.Slice.sliceApplied Builtin.Slice.sliceFields
  refine wpAny_bind (wpAny_bind (wpAny_field hos hds (x := vl) rfl (wpAny_bind (wpAny_field hos hds (x := vu) rfl (wpAny_bind (wpAny_field hos hds (x := vs) rfl (wpAny_pure ?_)))))))
  refine wpAny_bind (slicePart_ ps ?_)
  show wpAny _ _ (if ((-1 : Int) == 0) = true then _ else _) _ _ s
  rw [if_neg (by decide)]
  refine wpAny_bind (slicePart_ pl (wpAny_bind (slicePart_ pu (wpAny_bind (wpAny_pure ?_)))))
  show wpAny _ _ (match Builtin.Slice.sliceAdjust none none (-1) (n : Int) with | (lo, hi) => pure (lo, (-1 : Int), Builtin.Slice.slicePlaces lo hi (-1))) _ _ s
  rw [adjust_rev n]
  show wpAny _ _ (pure ((n : Int) - 1, (-1 : Int), Builtin.Slice.slicePlaces ((n : Int) - 1) (-1) (-1))) _ _ s
  rw [places_rev]
  exact wpAny_pure h
theorem getItem_tuple_rev {t sl : Addr} {items : Array Value} {vl vu vs : Value} {Q : Value → Shared → Prop} (ht : IsTup s.heap t items) (hs : s.heap.IsSliceOf sl vl vu vs) (pl : IsPart vl none) (pu : IsPart vu none) (ps : IsPart vs (some (-1)))
    (h : Q (.ref s.heap.objs.size) { s with heap := s.heap.push { cls := .type "tuple", data := .seq items.toList.reverse.toArray } })
    (hsz : items.size ≤ sizeLine) : wpAny (model prog w) A (getItem (.ref t) (.ref sl)) Q E s := by
  have htake : sizeOk (.seq items.toList.reverse.toArray) := by
    show items.toList.reverse.toArray.size ≤ sizeLine
    rw [List.size_toArray, List.length_reverse, Array.length_toList]
    omega
  obtain ⟨os, hos, hcs, hds⟩ := id hs
  have hTs : s.TypeIs (.ref sl) "slice" := ⟨os, hos, hcs⟩
  unfold getItem
  try with_reducible refine wpAny_holding ?_
  first | refine wpAny_bind (wpAny_pure ?_) | skip
  refine wpAny_bind (wpAny_sequenceKey ht.typeIs (by decide) ?_)
  refine wpAny_bind (wpAny_callSpecial?_slot (name := Str.ofString "__getitem__") ht.typeIs PyProof.Rows.slot_tuple_getitem
    (wpAny_call_entry PyProof.Rows.slot_tuple_getitem ht.typeIs entry_tuple_getitem ?_ (args_tuple_getitem _ _)))
  show wpAny _ _ (Builtin.Tuple.tupleItemsOf (.ref t) >>= _) _ _ s
  refine wpAny_bind (tupleItemsOf_ ht ?_)
  refine wpAny_bind (wpAny_typeOf hTs ?_)
  rw [if_pos (by decide)]
  refine wpAny_bind (sliceApplied_rev hs pl pu ps ?_)
  have hno : ¬ ((((items.size : Int) - 1) == 0 && (-1 : Int) == 1 && items.size == items.size) = true) := by
    intro q
    rw [Bool.and_eq_true, Bool.and_eq_true] at q
    exact absurd q.1.2 (by decide)
  show wpAny _ _ (if (((items.size : Int) - 1) == 0 && (-1 : Int) == 1 && items.size == items.size) = true then _ else _) _ _ s
  rw [if_neg hno, pick_rev]
  first
    | exact wpAny_bind (m := Builtin.Tuple.tupleExact _) (wpAny_newObj_type (wpAny_pure ⟨_, rfl, wpAny_pure h⟩) htake)
    | exact wpAny_bind (m := Builtin.Tuple.tupleExact _) (wpAny_newObj_type (wpAny_bind (wpAny_pure (wpAny_pure ⟨_, rfl, wpAny_pure h⟩))) htake)
    | exact wpAny_bind (wpAny_bind (m := Builtin.Tuple.tupleExact _) (wpAny_newObj_type (wpAny_pure (wpAny_pure ⟨_, rfl, wpAny_pure h⟩)) htake))
    | exact wpAny_bind (wpAny_bind (m := Builtin.Tuple.tupleExact _) (wpAny_newObj_type (wpAny_pure ⟨_, rfl, wpAny_pure h⟩) htake))
end
end HT
namespace L2
open PySem PySem.Spec PyProof.Rows
section
variable {X : Cx}
def tRevA (K : PySem.W.Frag) (te : TE) : TE := fun σ H Q => te σ H fun x H1 => (∃ a xs, x = .ref a ∧ SqL K H1 a xs ∧ ∀ p, H1 p = none → Q (.ref p) (upd H1 p (.lst xs.reverse))) ∨ (∃ a xs, x = .ref a ∧ SqT K H1 a xs ∧ ∀ p, H1 p = none → Q (.ref p) (upd H1 p (.tup xs.reverse)))
theorem pe_revA {e : Expr} {te : TE} {k : Nat} {p1 p2 p3 pos : Pos} (he : PE X e te) : PE X (.Subscript e (.Slice none none (some (.UnaryOp .USub (.Constant (.int 1) k p1) p2)) p3) pos) (tRevA X.K te) := by
  refine ⟨fun pins s σ H Q I h => ?_⟩
  refine Subscript_ (thn (he.run pins s σ H _ I h) fun v s1 ⟨x, H1, I1, r1, q1⟩ => ?_)
  have hst : PO X (some (.UnaryOp .USub (.Constant (.int 1) k p1) p2)) (tPart (tUn (rU fun i => .int (-i)) (tC (.int 1)))) := po_some (pe_un un_neg pe_int)
  refine wpAny_Slice (thn (po_none.run pins s1 σ H1 (fun o H2 => o = none ∧ H2 = H1) I1 ⟨rfl, rfl⟩) fun vl s2 ⟨l, H2, I2, pl, el, e2⟩ => ?_)
  subst el e2
  refine thn (po_none.run pins s2 σ H2 (fun o H3 => o = none ∧ H3 = H2) I2 ⟨rfl, rfl⟩) fun vu s3 ⟨u, H3, I3, pu, eu, e3⟩ => ?_
  subst eu e3
  refine thn (hst.run pins s3 σ H3 (fun o H4 => o = some (-1) ∧ H4 = H3) I3 ⟨1, rfl, -1, rfl, rfl, rfl⟩) fun vs s4 ⟨o, H4, I4, ps, eo, e4⟩ => ?_
  subst eo e4
  have I5 : Inv X pins σ H4 { s4 with heap := s4.heap.push { cls := .type "slice", data := .fields #[vl, vu, vs] } } := I4.kept (t' := s4.toks) fun b ob q => Heap.get?_push_of_some _ q
  rcases q1 with ⟨a, xs, rfl, hx, q⟩ | ⟨a, xs, rfl, hx, q⟩
  · cases r1
    obtain ⟨its, r, ht, hz⟩ := I5.list hx
    have hlen := r.length
    show wpAny (model X.prog X.w) X.A (subscriptTail e (.Slice none none (some (.UnaryOp .USub (.Constant (.int 1) k p1) p2)) p3) (.ref a) (.ref s4.heap.objs.size)) (EP X pins σ Q) X.xe { s4 with heap := s4.heap.push { cls := .type "slice", data := .fields #[vl, vu, vs] } }
    refine tail_any (ops := [.ref a, .ref s4.heap.objs.size]) ht.isList.typeIs (PySem.slot_list_getitem.lookup) ?_ (by with_unfolding_all rfl)
    refine wpAny_getItem_list_slice ht.isList (Heap.IsSliceOf.new _ vl vu vs) pl pu ps (by decide) ?_ (by rw [List.size_toArray]; omega)
    rw [PySem.W.krv_pick]
    refine ⟨.ref _, _, I5.laid (t' := s4.toks) (o := .lst xs.reverse) (fun b ob q => Heap.get?_push_of_some _ q) (Nat.le_refl _) ?_, rfl, q _ (I5.hok.fresh (Nat.le_refl _))⟩
    exact ⟨by rw [List.length_reverse]; exact hz, _, 0, r.reverse, Heap.get?_push_size _ rfl⟩
  · cases r1
    obtain ⟨its, r, ht, hz⟩ := I5.tuple hx
    have hlen : its.toArray.size = xs.length := by rw [List.size_toArray]; exact r.length.symm
    show wpAny (model X.prog X.w) X.A (subscriptTail e (.Slice none none (some (.UnaryOp .USub (.Constant (.int 1) k p1) p2)) p3) (.ref a) (.ref s4.heap.objs.size)) (EP X pins σ Q) X.xe { s4 with heap := s4.heap.push { cls := .type "slice", data := .fields #[vl, vu, vs] } }
    refine tail_any (ops := [.ref a, .ref s4.heap.objs.size]) ht.typeIs (PyProof.Rows.slot_tuple_getitem.lookup) ?_ (by with_unfolding_all rfl)
    refine HT.getItem_tuple_rev ht (Heap.IsSliceOf.new _ vl vu vs) pl pu ps ?_ (by rw [hlen]; exact hz)
    refine ⟨.ref _, _, I5.laid (t' := s4.toks) (o := .tup xs.reverse) (fun b ob q => Heap.get?_push_of_some _ q) (Nat.le_refl _) ?_, rfl, q _ (I5.hok.fresh (Nat.le_refl _))⟩
    exact ⟨by rw [List.length_reverse]; exact hz, _, r.reverse, IsTup.new _ _⟩
end
end L2

set_option maxHeartbeats 8000000
/-! Expressions: the induction. -/
namespace TH
open PySem PySem.Spec PyProof.Rows L2
section
variable {g : Names} {F : Fns}
/-! ### steps -/
theorem var_step {X : Cx} {i : Nat} {x : Str} {p : Pos} (W : Wd g F X) (h : nmOk g X.env.scope i x = true) : SE F X (.var i) (.Name x p) := by
  intro s σ r H hh v h' Q re q ev post
  obtain ⟨n1, n2, n3, n4⟩ := nmOk_of W h
  simp only [evalC] at ev
  split at ev
  · rename_i w hw
    simp only [Option.some.injEq, Prod.mk.injEq] at ev
    obtain ⟨rfl, rfl⟩ := ev
    obtain ⟨u, hu, rv⟩ := re.at' i w hw
    exact PE.w (pe_var n1 n2 n3 n4) ⟨u, hu, post.same q rv⟩
  · cases ev
theorem lit_step {X : Cx} {v : CV} {c : Const} {k : Nat} {p : Pos} (h : litB v c = true) : SE F X (.lit v) (.Constant c k p) := by
  intro s σ r H hh w h' Q re q ev post
  simp only [evalC, Option.some.injEq, Prod.mk.injEq] at ev
  obtain ⟨rfl, rfl⟩ := ev
  obtain ⟨u, pe, rv⟩ := litB_pe (X := X) (k := k) (p := p) h
  exact PE.w pe (post.same q (rv r H))
theorem glob_step {X : Cx} {nm : String} {v : CV} {p : Pos} (W : Wd g F X) (hg : glB X.env.scope (Str.ofString nm) = true) (hm : (nm, v) ∈ g.gv) (hd : (Str.ofString nm == ("__debug__" : Str)) = false) : SE F X (.glob nm v) (.Name (Str.ofString nm) p) := by
  intro s σ r H hh w h' Q re q ev post
  simp only [evalC, Option.some.injEq, Prod.mk.injEq] at ev
  obtain ⟨rfl, rfl⟩ := ev
  obtain ⟨u, x, e1, e2, e3⟩ := W.gl _ hm
  exact PE.w (pe_glob (gl_of hg) e1 e2 hd) (post.same q (e3 r H))
theorem bin_step {X : Cx} {o : BOp} {a b : CE} {ea eb : Expr} {p : Pos} (sa : SE F X a ea) (sb : SE F X b eb) : SE F X (.bin o a b) (.BinOp ea (opOf o) eb p) := by
  intro s σ r H h v h' Q re q ev post
  simp only [evalC, Option.bind_eq_some_iff] at ev
  obtain ⟨⟨x, h1⟩, e1, ⟨y, h2⟩, e2, e3⟩ := ev
  refine PE.w (pe_op opW peW peW) ?_
  refine sa s σ r H h x h1 _ re q e1 fun v1 r1 H1 st1 q1 rv1 => ?_
  refine sb s σ r1 H1 h1 y h2 _ (re.step q st1) q1 e2 fun v2 r2 H2 st2 q2 rv2 => ?_
  exact bin_ok q2 (rv1.step q1 st2) rv2 e3 fun v3 r3 H3 st3 q3 rv3 => post v3 r3 H3 (st1.trans (st2.trans st3)) q3 rv3
theorem cmp_step {X : Cx} {o : COp} {a b : CE} {ea eb : Expr} {p : Pos} (W : Wd g F X) (sa : SE F X a ea) (sb : SE F X b eb) (hs : isSet eb = false) : SE F X (.cmp o a b) (.Compare ea [cmpOf o] [eb] p) := by
  intro s σ r H h v h' Q re q ev post
  simp only [evalC, Option.bind_eq_some_iff, Option.map_eq_some_iff] at ev
  obtain ⟨⟨x, h1⟩, e1, ⟨y, h2⟩, e2, k, e3, e4⟩ := ev
  cases e4
  refine PE.w (cmp_PE hs) ?_
  refine sa s σ r H h x h1 _ re q e1 fun v1 r1 H1 st1 q1 rv1 => ?_
  refine sb s σ r1 H1 h1 y h2 _ (re.step q st1) q1 e2 fun v2 r2 H2 st2 q2 rv2 => ?_
  exact cmp_ok (by have := W.un; omega) q2 (rv1.step q1 st2) rv2 e3 fun v3 r3 H3 st3 q3 rv3 => post v3 r3 H3 (st1.trans (st2.trans st3)) q3 rv3
theorem cmpT_step {X : Cx} {o : COp} {a b : CE} {ea eb : Expr} {p : Pos} (W : Wd g F X) (sa : SE F X a ea) (sb : SE F X b eb) (hs : isSet eb = false) : ST F X (.cmp o a b) (.Compare ea [cmpOf o] [eb] p) := by
  intro s σ r H h k h' Q re q ev post
  simp only [testC, Option.bind_eq_some_iff, Option.map_eq_some_iff] at ev
  obtain ⟨⟨x, h1⟩, e1, ⟨y, h2⟩, e2, k, e3, e4⟩ := ev
  cases e4
  refine PT.w (pt_cmpR opW peW peW (marks hs)) ?_
  refine sa s σ r H h x h1 _ re q e1 fun v1 r1 H1 st1 q1 rv1 => ?_
  refine sb s σ r1 H1 h1 y h2 _ (re.step q st1) q1 e2 fun v2 r2 H2 st2 q2 rv2 => ?_
  exact cmp_ok (by have := W.un; omega) q2 (rv1.step q1 st2) rv2 e3 fun v3 r3 H3 st3 q3 rv3 => ⟨_, rv_bl rv3, post r3 H3 (st1.trans (st2.trans st3)) q3⟩
theorem cmp2_step {X : Cx} {o o2 : COp} {a b c : CE} {ea eb ec : Expr} {p : Pos} (W : Wd g F X) (sa : SE F X a ea) (sb : SE F X b eb) (sc : SE F X c ec) (hs : isSet ec = false) : SE F X (.cmp2 o o2 a b c) (.Compare ea [cmpOf o, cmpOf o2] [eb, ec] p) := by
  intro s σ r H h v h' Q re q ev post
  simp only [evalC, Option.bind_eq_some_iff] at ev
  obtain ⟨⟨x, h1⟩, e1, ⟨y, h2⟩, e2, k, e3, e4⟩ := ev
  have hu : X.A.units + 64 < cLine := by have := W.un; omega
  refine PE.w (pe_chain opW opW peW peW peW (lastM2 hs)) ?_
  refine sa s σ r H h x h1 _ re q e1 fun v1 r1 H1 st1 q1 rv1 => ?_
  refine sb s σ r1 H1 h1 y h2 _ (re.step q st1) q1 e2 fun v2 r2 H2 st2 q2 rv2 => ?_
  refine cmp_ok hu q2 (rv1.step q1 st2) rv2 e3 fun v3 r3 H3 st3 q3 rv3 => ⟨_, rv_bl rv3, ?_⟩
  have st13 := st1.trans (st2.trans st3)
  split at e4
  · rw [if_pos (by assumption)]
    simp only [Option.bind_eq_some_iff, Option.map_eq_some_iff] at e4
    obtain ⟨⟨z, h3⟩, f1, k2, f2, f3⟩ := e4
    cases f3
    refine sc s σ r3 H3 h2 z h3 _ (re.step q st13) q3 f1 fun v4 r4 H4 st4 q4 rv4 => ?_
    exact cmp_ok hu q4 ((rv2.step q2 st3).step q3 st4) rv4 f2 fun v5 r5 H5 st5 q5 rv5 => post v5 r5 H5 (st13.trans (st4.trans st5)) q5 rv5
  · rw [if_neg (by assumption)]
    cases e4
    exact post _ r3 H3 st13 q3 (.bl false)
theorem cmp2T_step {X : Cx} {o o2 : COp} {a b c : CE} {ea eb ec : Expr} {p : Pos} (W : Wd g F X) (sa : SE F X a ea) (sb : SE F X b eb) (sc : SE F X c ec) (hs : isSet ec = false) : ST F X (.cmp2 o o2 a b c) (.Compare ea [cmpOf o, cmpOf o2] [eb, ec] p) := by
  intro s σ r H h v h' Q re q ev post
  have ev2 := test_eval ev
  refine PT.w (pt_chain opW opW peW peW peW (lastM2 hs)) ?_
  simp only [testC, Option.bind_eq_some_iff] at ev
  obtain ⟨⟨x, h1⟩, e1, ⟨y, h2⟩, e2, k, e3, e4⟩ := ev
  have hu : X.A.units + 64 < cLine := by have := W.un; omega
  refine sa s σ r H h x h1 _ re q e1 fun v1 r1 H1 st1 q1 rv1 => ?_
  refine sb s σ r1 H1 h1 y h2 _ (re.step q st1) q1 e2 fun v2 r2 H2 st2 q2 rv2 => ?_
  refine cmp_ok hu q2 (rv1.step q1 st2) rv2 e3 fun v3 r3 H3 st3 q3 rv3 => ⟨_, rv_bl rv3, ?_⟩
  have st13 := st1.trans (st2.trans st3)
  split at e4
  · rw [if_pos (by assumption)]
    simp only [Option.bind_eq_some_iff, Option.map_eq_some_iff] at e4
    obtain ⟨⟨z, h3⟩, f1, k2, f2, f3⟩ := e4
    cases f3
    refine sc s σ r3 H3 h2 z h3 _ (re.step q st13) q3 f1 fun v4 r4 H4 st4 q4 rv4 => ?_
    exact cmp_ok hu q4 ((rv2.step q2 st3).step q3 st4) rv4 f2 fun v5 r5 H5 st5 q5 rv5 => ⟨_, rv_bl rv5, post r5 H5 (st13.trans (st4.trans st5)) q5⟩
  · rw [if_neg (by assumption)]
    cases e4
    exact ⟨_, rfl, post r3 H3 st13 q3⟩
theorem cmp3_step {X : Cx} {o o2 o3 : COp} {a b c d : CE} {ea eb ec ed : Expr} {p : Pos} (W : Wd g F X) (sa : SE F X a ea) (sb : SE F X b eb) (sc : SE F X c ec) (sd : SE F X d ed) (hs : isSet ed = false) : SE F X (.cmp3 o o2 o3 a b c d) (.Compare ea [cmpOf o, cmpOf o2, cmpOf o3] [eb, ec, ed] p) := by
  intro s σ r H h v h' Q re q ev post
  simp only [evalC, Option.bind_eq_some_iff] at ev
  obtain ⟨⟨x, h1⟩, e1, ⟨y, h2⟩, e2, k, e3, e4⟩ := ev
  have hu : X.A.units + 64 < cLine := by have := W.un; omega
  refine PE.w (pe_chain3 opW opW opW peW peW peW peW (lastM3 hs)) ?_
  refine sa s σ r H h x h1 _ re q e1 fun v1 r1 H1 st1 q1 rv1 => ?_
  refine sb s σ r1 H1 h1 y h2 _ (re.step q st1) q1 e2 fun v2 r2 H2 st2 q2 rv2 => ?_
  refine cmp_ok hu q2 (rv1.step q1 st2) rv2 e3 fun v3 r3 H3 st3 q3 rv3 => ⟨_, rv_bl rv3, ?_⟩
  have st13 := st1.trans (st2.trans st3)
  split at e4
  · rw [if_pos (by assumption)]
    simp only [Option.bind_eq_some_iff] at e4
    obtain ⟨⟨z, h3⟩, f1, k2, f2, f3⟩ := e4
    refine sc s σ r3 H3 h2 z h3 _ (re.step q st13) q3 f1 fun v4 r4 H4 st4 q4 rv4 => ?_
    refine cmp_ok hu q4 ((rv2.step q2 st3).step q3 st4) rv4 f2 fun v5 r5 H5 st5 q5 rv5 => ⟨_, rv_bl rv5, ?_⟩
    have st15 := st13.trans (st4.trans st5)
    split at f3
    · rw [if_pos (by assumption)]
      simp only [Option.bind_eq_some_iff, Option.map_eq_some_iff] at f3
      obtain ⟨⟨z2, h4⟩, g1, k3, g2, g3⟩ := f3
      cases g3
      refine sd s σ r5 H5 h3 z2 h4 _ (re.step q st15) q5 g1 fun v6 r6 H6 st6 q6 rv6 => ?_
      exact cmp_ok hu q6 ((rv4.step q4 st5).step q5 st6) rv6 g2 fun v7 r7 H7 st7 q7 rv7 => post v7 r7 H7 (st15.trans (st6.trans st7)) q7 rv7
    · rw [if_neg (by assumption)]
      cases f3
      exact post _ r5 H5 st15 q5 (.bl false)
  · rw [if_neg (by assumption)]
    cases e4
    exact post _ r3 H3 st13 q3 (.bl false)
theorem cmp3T_step {X : Cx} {o o2 o3 : COp} {a b c d : CE} {ea eb ec ed : Expr} {p : Pos} (W : Wd g F X) (sa : SE F X a ea) (sb : SE F X b eb) (sc : SE F X c ec) (sd : SE F X d ed) (hs : isSet ed = false) : ST F X (.cmp3 o o2 o3 a b c d) (.Compare ea [cmpOf o, cmpOf o2, cmpOf o3] [eb, ec, ed] p) := by
  intro s σ r H h v h' Q re q ev post
  simp only [testC, Option.bind_eq_some_iff] at ev
  obtain ⟨⟨x, h1⟩, e1, ⟨y, h2⟩, e2, k, e3, e4⟩ := ev
  have hu : X.A.units + 64 < cLine := by have := W.un; omega
  refine PT.w (pt_chain3 opW opW opW peW peW peW peW (lastM3 hs)) ?_
  refine sa s σ r H h x h1 _ re q e1 fun v1 r1 H1 st1 q1 rv1 => ?_
  refine sb s σ r1 H1 h1 y h2 _ (re.step q st1) q1 e2 fun v2 r2 H2 st2 q2 rv2 => ?_
  refine cmp_ok hu q2 (rv1.step q1 st2) rv2 e3 fun v3 r3 H3 st3 q3 rv3 => ⟨_, rv_bl rv3, ?_⟩
  have st13 := st1.trans (st2.trans st3)
  split at e4
  · rw [if_pos (by assumption)]
    simp only [Option.bind_eq_some_iff] at e4
    obtain ⟨⟨z, h3⟩, f1, k2, f2, f3⟩ := e4
    refine sc s σ r3 H3 h2 z h3 _ (re.step q st13) q3 f1 fun v4 r4 H4 st4 q4 rv4 => ?_
    refine cmp_ok hu q4 ((rv2.step q2 st3).step q3 st4) rv4 f2 fun v5 r5 H5 st5 q5 rv5 => ⟨_, rv_bl rv5, ?_⟩
    have st15 := st13.trans (st4.trans st5)
    split at f3
    · rw [if_pos (by assumption)]
      simp only [Option.bind_eq_some_iff, Option.map_eq_some_iff] at f3
      obtain ⟨⟨z2, h4⟩, g1, k3, g2, g3⟩ := f3
      cases g3
      refine sd s σ r5 H5 h3 z2 h4 _ (re.step q st15) q5 g1 fun v6 r6 H6 st6 q6 rv6 => ?_
      exact cmp_ok hu q6 ((rv4.step q4 st5).step q5 st6) rv6 g2 fun v7 r7 H7 st7 q7 rv7 => ⟨_, rv_bl rv7, post r7 H7 (st15.trans (st6.trans st7)) q7⟩
    · rw [if_neg (by assumption)]
      cases f3
      exact post r5 H5 st15 q5
  · rw [if_neg (by assumption)]
    cases e4
    exact post r3 H3 st13 q3
/-! ### and, or, not, if -/
theorem and_step {X : Cx} {a b : CE} {ea eb : Expr} {er : List Expr} {p : Pos} (sa : SE F X a ea) (sb : SE F X b (.BoolOp .And (eb :: er) p)) : SE F X (.and a b) (.BoolOp .And (ea :: eb :: er) p) := by
  intro s σ r H h v h' Q re q ev post
  simp only [evalC, Option.bind_eq_some_iff] at ev
  obtain ⟨⟨k, h1⟩, e1, e2⟩ := ev
  refine PE.w (pe_and peW peW) ?_
  refine sa s σ r H h _ h1 _ re q (test_eval e1) fun v1 r1 H1 st1 q1 rv1 => ⟨_, rv_bl rv1, ?_⟩
  split at e2
  · rw [if_pos (by assumption)]
    simp only [Option.map_eq_some_iff] at e2
    obtain ⟨⟨k2, h2⟩, f1, f2⟩ := e2
    cases f2
    exact sb s σ r1 H1 h1 _ h2 _ (re.step q st1) q1 (test_eval f1) fun v2 r2 H2 st2 q2 rv2 => post v2 r2 H2 (st1.trans st2) q2 rv2
  · rw [if_neg (by assumption)]
    cases e2
    exact post _ r1 H1 st1 q1 (.bl false)
theorem or_step {X : Cx} {a b : CE} {ea eb : Expr} {er : List Expr} {p : Pos} (sa : SE F X a ea) (sb : SE F X b (.BoolOp .Or (eb :: er) p)) : SE F X (.or a b) (.BoolOp .Or (ea :: eb :: er) p) := by
  intro s σ r H h v h' Q re q ev post
  simp only [evalC, Option.bind_eq_some_iff] at ev
  obtain ⟨⟨k, h1⟩, e1, e2⟩ := ev
  refine PE.w (pe_or peW peW) ?_
  refine sa s σ r H h _ h1 _ re q (test_eval e1) fun v1 r1 H1 st1 q1 rv1 => ⟨_, rv_bl rv1, ?_⟩
  split at e2
  · rw [if_pos (by assumption)]
    cases e2
    exact post _ r1 H1 st1 q1 (.bl true)
  · rw [if_neg (by assumption)]
    simp only [Option.map_eq_some_iff] at e2
    obtain ⟨⟨k2, h2⟩, f1, f2⟩ := e2
    cases f2
    exact sb s σ r1 H1 h1 _ h2 _ (re.step q st1) q1 (test_eval f1) fun v2 r2 H2 st2 q2 rv2 => post v2 r2 H2 (st1.trans st2) q2 rv2
theorem one_step {X : Cx} {c : CE} {op : PySem.BoolOp} {e : Expr} {p : Pos} (s : SE F X c e) : SE F X c (.BoolOp op [e] p) := fun s1 σ r H h v h' Q re q ev post => PE.w (pe_one peW) (s s1 σ r H h v h' Q re q ev post)
theorem not_step {X : Cx} {a : CE} {ea : Expr} {p : Pos} (sa : SE F X a ea) : SE F X (.not a) (.UnaryOp .Not ea p) := by
  intro s σ r H h v h' Q re q ev post
  simp only [evalC, Option.map_eq_some_iff] at ev
  obtain ⟨⟨k, h1⟩, e1, e2⟩ := ev
  cases e2
  refine PE.w (pe_not peW) ?_
  exact sa s σ r H h _ h1 _ re q (test_eval e1) fun v1 r1 H1 st1 q1 rv1 => ⟨_, rv_bl rv1, post _ r1 H1 st1 q1 (.bl _)⟩
theorem neg_step {X : Cx} {a : CE} {ea : Expr} {p : Pos} (sa : SE F X a ea) : SE F X (.neg a) (.UnaryOp .USub ea p) := by
  intro s σ r H h v h' Q re q ev post
  simp only [evalC, Option.bind_eq_some_iff] at ev
  obtain ⟨⟨x, h1⟩, e1, e2⟩ := ev
  split at e2
  · rename_i i hi
    cases e2
    simp only at hi
    subst hi
    refine PE.w (pe_un un_neg peW) ?_
    refine sa s σ r H h _ h1 _ re q e1 fun v1 r1 H1 st1 q1 rv1 => ?_
    cases rv1
    exact ⟨i, rfl, post _ r1 H1 st1 q1 (.int _)⟩
  · cases e2
theorem ite_step {X : Cx} {c a b : CE} {ec ea eb : Expr} {p : Pos} (tc : ST F X c ec) (sa : SE F X a ea) (sb : SE F X b eb) : SE F X (.ite c a b) (.IfExp ec ea eb p) := by
  intro s σ r H h v h' Q re q ev post
  simp only [evalC, Option.bind_eq_some_iff] at ev
  obtain ⟨⟨k, h1⟩, e1, e2⟩ := ev
  refine PE.w (pe_ifExp ptW peW peW) ?_
  refine tc s σ r H h k h1 _ re q e1 fun r1 H1 st1 q1 => ?_
  split at e2
  · rw [if_pos (by assumption)]
    exact sa s σ r1 H1 h1 _ _ _ (re.step q st1) q1 e2 fun v2 r2 H2 st2 q2 rv2 => post v2 r2 H2 (st1.trans st2) q2 rv2
  · rw [if_neg (by assumption)]
    exact sb s σ r1 H1 h1 _ _ _ (re.step q st1) q1 e2 fun v2 r2 H2 st2 q2 rv2 => post v2 r2 H2 (st1.trans st2) q2 rv2
/-! tests -/
theorem andT_step {X : Cx} {a b : CE} {ea eb : Expr} {er : List Expr} {p : Pos} {t : TT} (ta : ST F X a ea) (pw : PW X (.BoolOp .And (eb :: er) p) t) (tb : RdT F X b t) : ∃ t2, PW X (.BoolOp .And (ea :: eb :: er) p) t2 ∧ RdT F X (.and a b) t2 := by
  refine ⟨_, pw_and ptW pw, ?_⟩
  intro s σ r H h k h' Q re q ev post
  simp only [testC, Option.bind_eq_some_iff] at ev
  obtain ⟨⟨k, h1⟩, e1, e2⟩ := ev
  refine ta s σ r H h k h1 _ re q e1 fun r1 H1 st1 q1 => ?_
  split at e2
  · rw [if_pos (by assumption)]
    exact tb s σ r1 H1 h1 _ _ _ (re.step q st1) q1 e2 fun r2 H2 st2 q2 => post r2 H2 (st1.trans st2) q2
  · rw [if_neg (by assumption)]
    cases e2
    exact post r1 H1 st1 q1
theorem orT_step {X : Cx} {a b : CE} {ea eb : Expr} {er : List Expr} {p : Pos} {t : TT} (ta : ST F X a ea) (pw : PW X (.BoolOp .Or (eb :: er) p) t) (tb : RdT F X b t) : ∃ t2, PW X (.BoolOp .Or (ea :: eb :: er) p) t2 ∧ RdT F X (.or a b) t2 := by
  refine ⟨_, pw_or ptW pw, ?_⟩
  intro s σ r H h k h' Q re q ev post
  simp only [testC, Option.bind_eq_some_iff] at ev
  obtain ⟨⟨k, h1⟩, e1, e2⟩ := ev
  refine ta s σ r H h k h1 _ re q e1 fun r1 H1 st1 q1 => ?_
  split at e2
  · rw [if_pos (by assumption)]
    cases e2
    exact post r1 H1 st1 q1
  · rw [if_neg (by assumption)]
    exact tb s σ r1 H1 h1 _ _ _ (re.step q st1) q1 e2 fun r2 H2 st2 q2 => post r2 H2 (st1.trans st2) q2
theorem notT_step {X : Cx} {a : CE} {ea : Expr} {p : Pos} (ta : ST F X a ea) : ST F X (.not a) (.UnaryOp .Not ea p) := by
  intro s σ r H h k h' Q re q ev post
  simp only [testC, Option.map_eq_some_iff] at ev
  obtain ⟨⟨k, h1⟩, e1, e2⟩ := ev
  cases e2
  exact PT.w (pt_not ptW) (ta s σ r H h k h1 _ re q e1 fun r1 H1 st1 q1 => post r1 H1 st1 q1)
/-! displays, indices, slices -/
theorem tup_step2 {X : Cx} {es : CEs} {l : List Expr} {p : Pos} (sa : SA F X es l) (hk : chkEs g X.env.scope es l = true) (hl : l.length ≤ 1000) {kk : Nat} : SE F X (.tup es) (.Tuple l kk p) := by
  intro s σ r H h v h' Q re q ev post
  simp only [evalC, Option.map_eq_some_iff] at ev
  obtain ⟨⟨vs, h1⟩, e1, e2⟩ := ev
  cases e2
  refine PE.w (pe_tup (paW (chkEs_star hk))) ?_
  refine sa s σ r H h vs h1 _ re q e1 fun us r1 H1 st1 q1 rv => ?_
  refine ⟨?_, ?_⟩
  · rw [← rv.length, evalCs_len e1 hk, sizeLine_eq]; omega
  · exact PostE.tup (fun v2 r2 H2 st2 q2 rv2 => post v2 r2 H2 (st1.trans st2) q2 rv2) q1 rv
theorem lst_step {X : Cx} {es : CEs} {l : List Expr} {p : Pos} (sa : SA F X es l) (hk : chkEs g X.env.scope es l = true) (hl : l.length ≤ 1000) : SE F X (.lst es) (.List l p) := by
  intro s σ r H h v h' Q re q ev post
  simp only [evalC, Option.bind_eq_some_iff] at ev
  obtain ⟨⟨vs, h1⟩, e1, e2⟩ := ev
  obtain ⟨rfl, rfl⟩ := newc_eq e2
  refine PE.w (pe_lst (paW (chkEs_star hk))) ?_
  refine sa s σ r H h vs h1 _ re q e1 fun us r1 H1 st1 q1 rv => ?_
  refine ⟨?_, ?_⟩
  · rw [← rv.length, evalCs_len e1 hk, sizeLine_eq]; omega
  · exact PostE.lst (fun v2 r2 H2 st2 q2 rv2 => post v2 r2 H2 (st1.trans st2) q2 rv2) q1 rv
theorem dct0_step {X : Cx} {p : Pos} : SE F X .dct0 (.Dict [] [] p) := by
  intro s σ r H h v h' Q re q ev post
  simp only [evalC] at ev
  obtain ⟨rfl, rfl⟩ := newc_eq ev
  refine PE.w pe_dnewK fun a ha => ?_
  refine post _ (r ++ [a]) _ (Step.cell ha) (q.cell ha ⟨.dK [], upd_same, .inl ⟨[], rfl, .nil⟩⟩) (.ref ?_)
  rw [q.len]; simp
theorem ix_step {X : Cx} {a i : CE} {ea ei : Expr} {p : Pos} (W : Wd g F X) (sa : SE F X a ea) (si : SE F X i ei) (hs : isSl ei = false) : SE F X (.ix a i) (.Subscript ea ei p) := by
  intro s σ r H h v h' Q re q ev post
  simp only [evalC, Option.bind_eq_some_iff, Option.map_eq_some_iff] at ev
  obtain ⟨⟨x, h1⟩, e1, ⟨y, h2⟩, e2, w, e3, e4⟩ := ev
  cases e4
  refine PE.w (pe_ix ixW peW peW (slice_of (X := X) hs)) ?_
  refine sa s σ r H h x h1 _ re q e1 fun v1 r1 H1 st1 q1 rv1 => ?_
  refine si s σ r1 H1 h1 y h2 _ (re.step q st1) q1 e2 fun v2 r2 H2 st2 q2 rv2 => ?_
  exact ix_ok (by have := W.un; omega) q2 (rv1.step q1 st2) rv2 e3 fun v3 r3 H3 st3 q3 rv3 => post v3 r3 H3 (st1.trans (st2.trans st3)) q3 rv3
theorem poW {X : Cx} : ∀ {o : Option Expr}, PO X o (wOp X o)
  | none => po_none
  | some e => po_some peW
theorem sl_step {X : Cx} {a : CE} {lo hi : CO1} {ea : Expr} {l u : Option Expr} {p p2 : Pos} (sa : SE F X a ea) (sl : SO F X lo l) (su : SO F X hi u) : SE F X (.sl a lo hi) (.Subscript ea (.Slice l u none p2) p) := by
  intro s σ r H h v h' Q re q ev post
  simp only [evalC, Option.bind_eq_some_iff] at ev
  obtain ⟨⟨x, h1⟩, e1, ⟨o1, h2⟩, e2, ⟨o2, h3⟩, e3, e4⟩ := ev
  refine PE.w (pe_slice slW peW poW poW) ?_
  refine sa s σ r H h x h1 _ re q e1 fun v1 r1 H1 st1 q1 rv1 => ?_
  refine sl s σ r1 H1 h1 o1 h2 _ (re.step q st1) q1 e2 fun r2 H2 st2 q2 => ?_
  refine su s σ r2 H2 h2 o2 h3 _ ((re.step q st1).step q1 st2) q2 e3 fun r3 H3 st3 q3 => ?_
  exact sl_ok q3 ((rv1.step q1 st2).step q2 st3) e4 fun v4 r4 H4 st4 q4 rv4 => post v4 r4 H4 (st1.trans (st2.trans (st3.trans st4))) q4 rv4
theorem rev_step {X : Cx} {a : CE} {ea : Expr} {k : Nat} {p1 p2 p3 p : Pos} (sa : SE F X a ea) : SE F X (.rev a) (.Subscript ea (.Slice none none (some (.UnaryOp .USub (.Constant (.int 1) k p1) p2)) p3) p) := by
  intro s σ r H h v h' Q re q ev post
  simp only [evalC, Option.bind_eq_some_iff] at ev
  obtain ⟨⟨x, h1⟩, e1, e2⟩ := ev
  dsimp only at e2
  unfold revV at e2
  cases x with
  | tup xs =>
    dsimp only at e2
    cases e2
    refine PE.w (pe_revA peW) ?_
    refine sa s σ r H h _ _ _ re q e1 fun v1 r1 H1 st1 q1 rv1 => ?_
    cases rv1 with | @tup _ _ vs t us =>
    exact .inr ⟨_, vs, rfl, SqT.of t, PostE.tup (fun v2 r2 H2 st2 q2 rv2 => post v2 r2 H2 (st1.trans st2) q2 rv2) q1 us.reverse⟩
  | ref n =>
    dsimp only at e2
    split at e2
    · rename_i xs hx
      obtain ⟨rfl, rfl⟩ := newc_eq e2
      refine PE.w (pe_revA peW) ?_
      refine sa s σ r H h _ h1 _ re q e1 fun v1 r1 H1 st1 q1 rv1 => ?_
      cases rv1 with | @ref _ a z =>
      obtain ⟨vs, g, us, _⟩ := rdl_at q1 hx z
      exact .inl ⟨a, vs, rfl, g, PostE.lst (fun v2 r2 H2 st2 q2 rv2 => post v2 r2 H2 (st1.trans st2) q2 rv2) q1 us.reverse⟩
    · cases e2
  | _ => cases e2
theorem comp_rd {X : Cx} {elt cond : CE} {it : CI} {i : Nat} {ee ei : Expr} {ifs : List Expr} {x : Str} {scope : Scope} {px : Pos} (W : Wd g F X) (hb : blkB g X.env.scope scope i x = true)
    (se : ∀ s0 H0 C cl fp, SE F (fX X s0 H0 scope C cl fp) elt ee) (hi : (∃ ec, ifs = [ec] ∧ ∀ s0 H0 C cl fp, ST F (fX X s0 H0 scope C cl fp) cond ec) ∨ (ifs = [] ∧ cond = .lit (.bl true)))
    (si : SI F X it ei) (hset : isSet ei = false) : RdE F X (.comp elt i it cond) (tLc (wI' X (.Name x px) ei) (gName i) (uIf X scope ifs) (uE X scope ee) [i]) := by
  intro s σ r H h v h' Q re q ev post
  simp only [evalC, Option.bind_eq_some_iff] at ev
  obtain ⟨⟨src, h1⟩, e1, e2⟩ := ev
  split at e2
  · rename_i hl
    simp only [Option.bind_eq_some_iff] at e2
    obtain ⟨⟨acc2, h2⟩, e2, e3⟩ := e2
    obtain ⟨pe, hel, hct⟩ := comp_step (pos := px) W hb se hi (piW (X := X) (tg := .Name x px) (e := ei)) hset
    refine si (.Name x px) s σ r H h src h1 _ re q e1 fun J r1 H1 st1 q1 rj => ?_
    intro D hD
    refine comp_loop (Q := Q) rj q1 (re.step q st1) hel hct hl e2 D hD fun r' H' av st q' nD eD ra => ?_
    exact comp_post q st1 hD e3 post r' H' av st q' nD eD ra
  · cases e2
theorem compE_step {X : Cx} {elt cond : CE} {it : CI} {i : Nat} {ee ei : Expr} {ifs : List Expr} {x : Str} {scope : Scope} {px pos : Pos} (W : Wd g F X) (hb : blkB g X.env.scope scope i x = true)
    (se : ∀ s0 H0 C cl fp, SE F (fX X s0 H0 scope C cl fp) elt ee) (hi : (∃ ec, ifs = [ec] ∧ ∀ s0 H0 C cl fp, ST F (fX X s0 H0 scope C cl fp) cond ec) ∨ (ifs = [] ∧ cond = .lit (.bl true)))
    (si : SI F X it ei) (hset : isSet ei = false) : SE F X (.comp elt i it cond) (.ListComp ee [⟨.Name x px, ei, ifs, 0⟩] scope pos) := by
  intro s σ r H h v h' Q re q ev post
  exact PE.w (comp_step (pos := pos) W hb se hi (piW (X := X) (tg := .Name x px) (e := ei)) hset).1 (comp_rd W hb se hi si hset s σ r H h v h' Q re q ev post)
end
end TH

set_option maxHeartbeats 8000000
/-! Expressions: the induction. -/
namespace TH
open PySem PySem.Spec PyProof.Rows L2
section
variable {g : Names} {F : Fns}
theorem range1_step {X : Cx} {a : CE} {ea : Expr} {p pos : Pos} (W : Wd g F X) (sa : SE F X a ea) (hst : star ea = false) (hg : glB X.env.scope "range" = true) : SI F X (.range1 a) (.Call (.Name "range" p) [ea] [] pos) := by
  intro tg s σ r H h src h' R re q ev post
  simp only [evalI, Option.bind_eq_some_iff] at ev
  obtain ⟨⟨x, h1⟩, e1, e2⟩ := ev
  dsimp only at e2
  cases x with
  | int j =>
    dsimp only at e2
    split at e2
    · rename_i hj
      cases e2
      obtain ⟨j1, j2⟩ := small_of hj
      refine PI.w (pi_range1 (gl_of hg) (W.bl _ (by decide +kernel)) (pa_cons peW pa_nil (star_each hst)) (star_each hst)) ?_
      refine sa s σ r H h _ _ _ re q e1 fun v1 r1 H1 st1 q1 rv1 => ?_
      cases rv1
      exact ⟨j, rfl, j1, j2, post _ r1 H1 st1 q1 rj_ints⟩
    · cases e2
  | _ => cases e2
theorem range2_step {X : Cx} {a b : CE} {ea eb : Expr} {p pos : Pos} (W : Wd g F X) (sa : SE F X a ea) (sb : SE F X b eb) (hst : star ea = false) (hst2 : star eb = false) (hg : glB X.env.scope "range" = true) : SI F X (.range2 a b) (.Call (.Name "range" p) [ea, eb] [] pos) := by
  intro tg s σ r H h src h' R re q ev post
  simp only [evalI, Option.bind_eq_some_iff] at ev
  obtain ⟨⟨x, h1⟩, e1, ⟨y, h2⟩, e2, e3⟩ := ev
  dsimp only at e3 e2
  split at e3
  · rename_i i j
    split at e3
    · rename_i hj
      cases e3
      rw [Bool.and_eq_true] at hj
      obtain ⟨i1, i2⟩ := small_of hj.1
      obtain ⟨j1, j2⟩ := small_of hj.2
      refine PI.w (pi_range2 (gl_of hg) (W.bl _ (by decide +kernel)) (pa_cons peW (pa_cons peW pa_nil (star_each hst2)) (star_each hst)) (by rw [star_each hst, star_each hst2]; rfl) (star_each hst2)) ?_
      refine sa s σ r H h _ _ _ re q e1 fun v1 r1 H1 st1 q1 rv1 => ?_
      refine sb s σ r1 H1 _ _ _ _ (re.step q st1) q1 e2 fun v2 r2 H2 st2 q2 rv2 => ?_
      cases rv1
      cases rv2
      exact ⟨i, j, rfl, ⟨i1, i2, j1, j2⟩, post _ r2 H2 (st1.trans st2) q2 rj_ints⟩
    · cases e3
  · cases e3
theorem val_step {X : Cx} {a : CE} {ea : Expr} (sa : SE F X a ea) : SI F X (.val a) ea := by
  intro tg s σ r H h src h' R re q ev post
  simp only [evalI, Option.bind_eq_some_iff] at ev
  obtain ⟨⟨x, h1⟩, e1, e2⟩ := ev
  dsimp only at e2
  cases x with
  | tup xs =>
    simp only [srcOf, Option.some.injEq, Prod.mk.injEq] at e2
    obtain ⟨rfl, rfl⟩ := e2
    refine PI.w (pi_tup peW) ?_
    refine sa s σ r H h _ _ _ re q e1 fun v1 r1 H1 st1 q1 rv1 => ?_
    cases rv1 with | tup t us =>
    exact ⟨_, rfl, ⟨_, SqT.of t⟩, post _ r1 H1 st1 q1 (rj_tup q1 t us)⟩
  | str t =>
    simp only [srcOf, Option.some.injEq, Prod.mk.injEq] at e2
    obtain ⟨rfl, rfl⟩ := e2
    refine PI.w (pi_str peW) ?_
    refine sa s σ r H h _ _ _ re q e1 fun v1 r1 H1 st1 q1 rv1 => ?_
    cases rv1
    exact ⟨_, rfl, post _ r1 H1 st1 q1 rj_str⟩
  | ref n =>
    have key : ∀ xs, rdl h1 n = some xs → src = .cell n ∧ h' = h1 → wI' X tg ea σ H R := by
      rintro xs hx ⟨rfl, rfl⟩
      refine PI.w (pi_list peW) ?_
      refine sa s σ r H h _ _ _ re q e1 fun v1 r1 H1 st1 q1 rv1 => ?_
      cases rv1 with | @ref _ a z =>
      obtain ⟨vs, g, us, _⟩ := rdl_at q1 hx z
      exact ⟨a, rfl, ⟨vs, g⟩, post _ r1 H1 st1 q1 (rj_cell z)⟩
    simp only [srcOf] at e2
    split at e2
    · rename_i xs hx
      cases e2
      exact key xs (by simp [rdl, hx]) ⟨rfl, rfl⟩
    · rename_i xs hx
      cases e2
      exact key xs (by simp [rdl, hx]) ⟨rfl, rfl⟩
    · cases e2
  | _ => simp [srcOf] at e2
mutual
theorem seE : ∀ (c : CE) {X : Cx} (W : Wd g F X) {e : Expr}, chkE g X.env.scope c e = true → SE F X c e
  | .var i, X, W, e, hc => by
    simp only [chkE] at hc
    split at hc
    · rename_i x hx
      obtain ⟨p, rfl⟩ := asName_eq hx
      exact var_step W hc
    · cases hc
  | .lit v, X, W, e, hc => by
    simp only [chkE] at hc
    split at hc
    · rename_i x hx
      obtain ⟨k, p, rfl⟩ := asConst_eq hx
      exact lit_step hc
    · cases hc
  | .glob nm v, X, W, e, hc => by
    simp only [chkE] at hc
    split at hc
    · rename_i x hx
      obtain ⟨p, rfl⟩ := asName_eq hx
      simp only [Bool.and_eq_true, decide_eq_true_eq, Bool.not_eq_true'] at hc
      obtain ⟨⟨⟨rfl, h2⟩, h3⟩, h4⟩ := hc
      exact glob_step W h2 h3 h4
    · cases hc
  | .bin o a b, X, W, e, hc => by
    simp only [chkE] at hc
    split at hc
    · rename_i x hx
      obtain ⟨p, rfl⟩ := asBin_eq hx
      simp only [Bool.and_eq_true] at hc
      obtain ⟨⟨h1, h2⟩, h3⟩ := hc
      rw [opB_eq h1]
      exact bin_step (seE a W h2) (seE b W h3)
    · cases hc
  | .cmp o a b, X, W, e, hc => by
    simp only [chkE] at hc
    split at hc
    · rename_i x hx
      obtain ⟨p, rfl⟩ := asCmp_eq hx
      simp only [Bool.and_eq_true, Bool.not_eq_true'] at hc
      obtain ⟨⟨⟨h1, h2⟩, h3⟩, h4⟩ := hc
      rw [coB_eq h1]
      exact cmp_step W (seE a W h2) (seE b W h3) h4
    · cases hc
  | .cmp2 o o2 a b c, X, W, e, hc => by
    simp only [chkE] at hc
    split at hc
    · rename_i x hx
      obtain ⟨p, rfl⟩ := asCmp_eq hx
      simp only [Bool.and_eq_true, Bool.not_eq_true'] at hc
      obtain ⟨⟨⟨⟨⟨h1, h2⟩, h3⟩, h4⟩, h5⟩, h6⟩ := hc
      rw [coB_eq h1, coB_eq h2]
      exact cmp2_step W (seE a W h3) (seE b W h4) (seE c W h5) h6
    · cases hc
  | .cmp3 o o2 o3 a b c d, X, W, e, hc => by
    simp only [chkE] at hc
    split at hc
    · rename_i x hx
      obtain ⟨p, rfl⟩ := asCmp_eq hx
      simp only [Bool.and_eq_true, Bool.not_eq_true'] at hc
      obtain ⟨⟨⟨⟨⟨⟨⟨h1, h2⟩, h3⟩, h4⟩, h5⟩, h6⟩, h7⟩, h8⟩ := hc
      rw [coB_eq h1, coB_eq h2, coB_eq h3]
      exact cmp3_step W (seE a W h4) (seE b W h5) (seE c W h6) (seE d W h7) h8
    · cases hc
  | .and a b, X, W, e, hc => by
    simp only [chkE] at hc
    split at hc
    · rename_i x hx
      cases asBool_eq hx
      simp only [Bool.and_eq_true] at hc
      exact and_step (seE a W hc.1) (one_step (seE b W hc.2))
    · rename_i x hx
      cases asBool_eq hx
      simp only [Bool.and_eq_true] at hc
      exact and_step (seE a W hc.1) (seE b W hc.2)
    · cases hc
  | .or a b, X, W, e, hc => by
    simp only [chkE] at hc
    split at hc
    · rename_i x hx
      cases asBool_eq hx
      simp only [Bool.and_eq_true] at hc
      exact or_step (seE a W hc.1) (one_step (seE b W hc.2))
    · rename_i x hx
      cases asBool_eq hx
      simp only [Bool.and_eq_true] at hc
      exact or_step (seE a W hc.1) (seE b W hc.2)
    · cases hc
  | .not a, X, W, e, hc => by
    simp only [chkE] at hc
    split at hc
    · rename_i x hx
      obtain ⟨p, rfl⟩ := asUn_eq hx
      exact not_step (seE a W hc)
    · cases hc
  | .neg a, X, W, e, hc => by
    simp only [chkE] at hc
    split at hc
    · rename_i x hx
      obtain ⟨p, rfl⟩ := asUn_eq hx
      exact neg_step (seE a W hc)
    · cases hc
  | .ite c a b, X, W, e, hc => by
    simp only [chkE] at hc
    split at hc
    · rename_i x hx
      obtain ⟨p, rfl⟩ := asIf_eq hx
      simp only [Bool.and_eq_true] at hc
      exact ite_step (seT c W hc.1.1) (seE a W hc.1.2) (seE b W hc.2)
    · cases hc
  | .tup es, X, W, e, hc => by
    simp only [chkE] at hc
    split at hc
    · rename_i x hx
      obtain ⟨k, p, rfl⟩ := asTup_eq hx
      simp only [Bool.and_eq_true, decide_eq_true_eq] at hc
      exact tup_step2 (kk := k) (seEs es W hc.1) hc.1 hc.2
    · cases hc
  | .lst es, X, W, e, hc => by
    simp only [chkE] at hc
    split at hc
    · rename_i x hx
      obtain ⟨p, rfl⟩ := asLst_eq hx
      simp only [Bool.and_eq_true, decide_eq_true_eq] at hc
      exact lst_step (seEs es W hc.1) hc.1 hc.2
    · cases hc
  | .dct0, X, W, e, hc => by
    simp only [chkE] at hc
    obtain ⟨p, rfl⟩ := isDct0_eq hc
    exact dct0_step
  | .ix a i, X, W, e, hc => by
    simp only [chkE] at hc
    split at hc
    · rename_i x hx
      obtain ⟨p, rfl⟩ := asSub_eq hx
      simp only [Bool.and_eq_true, Bool.not_eq_true'] at hc
      exact ix_step W (seE a W hc.1.1) (seE i W hc.1.2) hc.2
    · cases hc
  | .sl a lo hi, X, W, e, hc => by
    simp only [chkE] at hc
    split at hc
    · rename_i x hx
      obtain ⟨p, rfl⟩ := asSub_eq hx
      split at hc
      · rename_i l u hx2
        obtain ⟨p2, rfl⟩ := asSlc_eq hx2
        simp only [Bool.and_eq_true] at hc
        exact sl_step (seE a W hc.1.1) (seO lo W hc.1.2) (seO hi W hc.2)
      · cases hc
    · cases hc
  | .rev a, X, W, e, hc => by
    simp only [chkE] at hc
    split at hc
    · rename_i x hx
      obtain ⟨p, rfl⟩ := asSub_eq hx
      split at hc
      · rename_i u hx2
        obtain ⟨p2, rfl⟩ := asSlc_eq hx2
        simp only [Bool.and_eq_true] at hc
        obtain ⟨k, p3, p4, rfl⟩ := isOne_eq hc.2
        exact rev_step (seE a W hc.1)
      · cases hc
    · cases hc
  | .call f es, X, W, e, hc => by
    simp only [chkE] at hc
    split at hc
    · rename_i x l hx
      obtain ⟨p, p2, rfl⟩ := asCall_eq hx
      simp only [Bool.and_eq_true, Bool.not_eq_true'] at hc
      exact call_step W (seEs es W hc.1.1.1) hc.1.1.1 hc.1.1.2 hc.1.2 hc.2
    · cases hc
  | .bi f es, X, W, e, hc => by
    simp only [chkE] at hc
    split at hc
    · rename_i x l hx
      obtain ⟨p, p2, rfl⟩ := asCall_eq hx
      simp only [Bool.and_eq_true, decide_eq_true_eq] at hc
      obtain ⟨⟨rfl, h2⟩, h3⟩ := hc
      have pl : ∀ (hk : chkEs g X.env.scope es l = true) (hn : l ≠ []) (hf : ∀ t, f ≠ .isi t), SE F X (.bi f es) (.Call (.Name (Str.ofString (biN f)) p) l [] p2) := fun hk hn hf => bi_step W (seEs es W hk) hk hn hf h2
      cases f with
      | isi t =>
        dsimp only at h3
        split at h3
        · rename_i ea ey
          simp only [Bool.and_eq_true] at h3
          obtain ⟨h4, h5⟩ := h3
          split at h5
          · rename_i y hy
            obtain ⟨p3, rfl⟩ := asName_eq hy
            simp only [Bool.and_eq_true, decide_eq_true_eq] at h5
            obtain ⟨rfl, h6⟩ := h5
            exact isi_step W (seEs es W h4) h4 h2 h6
          · cases h5
        · cases h3
      | _ =>
        simp only [Bool.and_eq_true, Bool.not_eq_true', List.isEmpty_eq_false_iff] at h3
        exact pl h3.1 h3.2 fun t e => by cases e
    · cases hc
  | .me m o es, X, W, e, hc => by
    simp only [chkE] at hc
    split at hc
    · rename_i eo nm ap l p hx
      cases asMeth_eq hx
      simp only [Bool.and_eq_true, decide_eq_true_eq, Bool.not_eq_true'] at hc
      obtain ⟨⟨⟨⟨⟨h1, h2⟩, rfl⟩, h4⟩, h5⟩, h6⟩ := hc
      exact me_step W (seE o W h1) (seEs es W h2) h2 h4 h5 h6
    · cases hc
  | .comp elt i it cond, X, W, e, hc => by
    simp only [chkE] at hc
    split at hc
    · rename_i ee x ei ifs scope hx
      obtain ⟨p, p2, rfl⟩ := asComp_eq hx
      simp only [Bool.and_eq_true] at hc
      obtain ⟨⟨⟨h1, h2⟩, h3⟩, h4⟩ := hc
      have hset : isSet ei = false := by
        cases it with
        | val a => simp only [chkI, Bool.and_eq_true, Bool.not_eq_true'] at h1; exact h1.2
        | range1 a => cases ei <;> first | rfl | (simp [chkI, asCall] at h1)
        | range2 a b => cases ei <;> first | rfl | (simp [chkI, asCall] at h1)
      refine compE_step W h2 (fun s0 H0 C cl fp => seE elt (X := fX X s0 H0 scope C cl fp) W.blk h3) ?_ (seI it W h1) hset
      split at h4
      · split at h4
        · exact .inr ⟨rfl, rfl⟩
        · cases h4
      · exact .inl ⟨_, rfl, fun s0 H0 C cl fp => seT cond (X := fX X s0 H0 scope C cl fp) W.blk h4⟩
      · cases h4
    · cases hc
  | .compD elt i vl d cond, X, W, e, hc => by
    simp only [chkE] at hc
    split at hc
    · rename_i ee x ei ifs scope hx
      obtain ⟨p, p2, rfl⟩ := asComp_eq hx
      simp only [Bool.and_eq_true] at hc
      obtain ⟨⟨⟨h1, h2⟩, h3⟩, h4⟩ := hc
      refine compD_step W h2 (fun s0 H0 C cl fp => seE elt (X := fX X s0 H0 scope C cl fp) W.blk h3) ?_ ?_
      · split at h4
        · split at h4
          · exact .inr ⟨rfl, rfl⟩
          · cases h4
        · exact .inl ⟨_, rfl, fun s0 H0 C cl fp => seT cond (X := fX X s0 H0 scope C cl fp) W.blk h4⟩
        · cases h4
      · cases vl with
        | false =>
          dsimp only at h1
          split at h1
          · rename_i y hy
            obtain ⟨p3, rfl⟩ := asName_eq hy
            exact .inl ⟨rfl, y, p3, rfl, h1⟩
          · cases h1
        | true =>
          dsimp only at h1
          split at h1
          · rename_i eo nm ap p4 hm
            split at h1
            · rename_i y hy
              obtain ⟨p3, rfl⟩ := asName_eq hy
              simp only [Bool.and_eq_true, decide_eq_true_eq] at h1
              obtain ⟨⟨h5, rfl⟩, h6⟩ := h1
              exact .inr ⟨rfl, y, p3, ap, p4, asMeth_eq hm, h5, h6⟩
            · cases h1
          · cases h1
    · cases hc
theorem seEs : ∀ (cs : CEs) {X : Cx} (W : Wd g F X) {l : List Expr}, chkEs g X.env.scope cs l = true → SA F X cs l
  | .nil, X, W, l, hc => by
    simp only [chkEs, List.isEmpty_iff] at hc
    subst hc
    intro s σ r H h vs h' Q re q ev post
    simp only [evalCs, Option.some.injEq, Prod.mk.injEq] at ev
    obtain ⟨rfl, rfl⟩ := ev
    exact post [] r H .refl q .nil
  | .cons c cs, X, W, [], hc => by simp [chkEs] at hc
  | .cons c cs, X, W, e :: es, hc => by
    simp only [chkEs, Bool.and_eq_true] at hc
    have s1 := seE c W hc.1
    have s2 := seEs cs W hc.2
    intro s σ r H h vs h' Q re q ev post
    simp only [evalCs, Option.bind_eq_some_iff, Option.map_eq_some_iff] at ev
    obtain ⟨⟨x, h1⟩, e1, ⟨xs, h2⟩, e2, e3⟩ := ev
    cases e3
    refine s1 s σ r H h x h1 _ re q e1 fun v1 r1 H1 st1 q1 rv1 => ?_
    exact s2 s σ r1 H1 h1 xs _ _ (re.step q st1) q1 e2 fun us r2 H2 st2 q2 rv2 => post (v1 :: us) r2 H2 (st1.trans st2) q2 (.cons (rv1.step q1 st2) rv2)
theorem seO : ∀ (c : CO1) {X : Cx} (W : Wd g F X) {o : Option Expr}, chkO g X.env.scope c o = true → SO F X c o
  | .no, X, W, o, hc => by
    simp only [chkO, Option.isNone_iff_eq_none] at hc
    subst hc
    intro s σ r H h o h' Q re q ev post
    simp only [evalO, Option.some.injEq, Prod.mk.injEq] at ev
    obtain ⟨rfl, rfl⟩ := ev
    exact post r H .refl q
  | .ex a, X, W, none, hc => by simp [chkO] at hc
  | .ex a, X, W, some e, hc => by
    simp only [chkO] at hc
    have s1 := seE a W hc
    intro s σ r H h o h' Q re q ev post
    simp only [evalO, Option.bind_eq_some_iff] at ev
    obtain ⟨⟨x, h1⟩, e1, e2⟩ := ev
    dsimp only at e2
    cases x with
    | int i =>
      cases e2
      refine s1 s σ r H h _ _ _ re q e1 fun v1 r1 H1 st1 q1 rv1 => ?_
      cases rv1
      exact ⟨i, rfl, post r1 H1 st1 q1⟩
    | _ => cases e2
theorem seI : ∀ (c : CI) {X : Cx} (W : Wd g F X) {e : Expr}, chkI g X.env.scope c e = true → SI F X c e
  | .range1 a, X, W, e, hc => by
    simp only [chkI] at hc
    split at hc
    · rename_i x ea hx
      obtain ⟨p, p2, rfl⟩ := asCall_eq hx
      simp only [Bool.and_eq_true, decide_eq_true_eq] at hc
      obtain ⟨⟨h1, rfl⟩, h3⟩ := hc
      exact range1_step W (seE a W h1) (chk_star h1) h3
    · cases hc
  | .range2 a b, X, W, e, hc => by
    simp only [chkI] at hc
    split at hc
    · rename_i x ea eb hx
      obtain ⟨p, p2, rfl⟩ := asCall_eq hx
      simp only [Bool.and_eq_true, decide_eq_true_eq] at hc
      obtain ⟨⟨⟨h1, h2⟩, rfl⟩, h3⟩ := hc
      exact range2_step W (seE a W h1) (seE b W h2) (chk_star h1) (chk_star h2) h3
    · cases hc
  | .val a, X, W, e, hc => by
    simp only [chkI, Bool.and_eq_true] at hc
    exact val_step (seE a W hc.1)
theorem seT : ∀ (c : CE) {X : Cx} (W : Wd g F X) {e : Expr}, chkE g X.env.scope c e = true → ST F X c e
  | .not a, X, W, e, hc => by
    simp only [chkE] at hc
    split at hc
    · rename_i x hx
      obtain ⟨p, rfl⟩ := asUn_eq hx
      exact notT_step (seT a W hc)
    · cases hc
  | .cmp o a b, X, W, e, hc => by
    simp only [chkE] at hc
    split at hc
    · rename_i x hx
      obtain ⟨p, rfl⟩ := asCmp_eq hx
      simp only [Bool.and_eq_true, Bool.not_eq_true'] at hc
      obtain ⟨⟨⟨h1, h2⟩, h3⟩, h4⟩ := hc
      rw [coB_eq h1]
      exact cmpT_step W (seE a W h2) (seE b W h3) h4
    · cases hc
  | .cmp2 o o2 a b c, X, W, e, hc => by
    simp only [chkE] at hc
    split at hc
    · rename_i x hx
      obtain ⟨p, rfl⟩ := asCmp_eq hx
      simp only [Bool.and_eq_true, Bool.not_eq_true'] at hc
      obtain ⟨⟨⟨⟨⟨h1, h2⟩, h3⟩, h4⟩, h5⟩, h6⟩ := hc
      rw [coB_eq h1, coB_eq h2]
      exact cmp2T_step W (seE a W h3) (seE b W h4) (seE c W h5) h6
    · cases hc
  | .cmp3 o o2 o3 a b c d, X, W, e, hc => by
    simp only [chkE] at hc
    split at hc
    · rename_i x hx
      obtain ⟨p, rfl⟩ := asCmp_eq hx
      simp only [Bool.and_eq_true, Bool.not_eq_true'] at hc
      obtain ⟨⟨⟨⟨⟨⟨⟨h1, h2⟩, h3⟩, h4⟩, h5⟩, h6⟩, h7⟩, h8⟩ := hc
      rw [coB_eq h1, coB_eq h2, coB_eq h3]
      exact cmp3T_step W (seE a W h4) (seE b W h5) (seE c W h6) (seE d W h7) h8
    · cases hc
  | .and a b, X, W, e, hc => by
    simp only [chkE] at hc
    split at hc
    · rename_i x hx
      cases asBool_eq hx
      simp only [Bool.and_eq_true] at hc
      have hb : RdT F X b _ := seT b W hc.2
      obtain ⟨t2, p1, p2⟩ := andT_step (seT a W hc.1) (pw_and1 ptW) hb
      exact fun s σ r H h v h' Q re q ev post => PT.w (PW.pt p1) (p2 s σ r H h v h' Q re q ev post)
    · rename_i x hx
      cases asBool_eq hx
      simp only [Bool.and_eq_true] at hc
      obtain ⟨t, p3, p4⟩ := seWA b W hc.2
      obtain ⟨t2, p1, p2⟩ := andT_step (seT a W hc.1) p3 p4
      exact fun s σ r H h v h' Q re q ev post => PT.w (PW.pt p1) (p2 s σ r H h v h' Q re q ev post)
    · cases hc
  | .or a b, X, W, e, hc => by
    simp only [chkE] at hc
    split at hc
    · rename_i x hx
      cases asBool_eq hx
      simp only [Bool.and_eq_true] at hc
      have hb : RdT F X b _ := seT b W hc.2
      obtain ⟨t2, p1, p2⟩ := orT_step (seT a W hc.1) (pw_or1 ptW) hb
      exact fun s σ r H h v h' Q re q ev post => PT.w (PW.pt p1) (p2 s σ r H h v h' Q re q ev post)
    · rename_i x hx
      cases asBool_eq hx
      simp only [Bool.and_eq_true] at hc
      obtain ⟨t, p3, p4⟩ := seWO b W hc.2
      obtain ⟨t2, p1, p2⟩ := orT_step (seT a W hc.1) p3 p4
      exact fun s σ r H h v h' Q re q ev post => PT.w (PW.pt p1) (p2 s σ r H h v h' Q re q ev post)
    · cases hc
  | .lit v, X, W, e, hc => st_plain (by simp only [chkE] at hc; split at hc <;> first | (cases hc; done) | (rename_i x hx; obtain ⟨k, p, rfl⟩ := asConst_eq hx; rfl)) (seE (.lit v) W hc)
  | .var i, X, W, e, hc => st_plain (by simp only [chkE] at hc; split at hc <;> first | (cases hc; done) | (rename_i x hx; obtain ⟨p, rfl⟩ := asName_eq hx; rfl)) (seE (.var i) W hc)
  | .call f es, X, W, e, hc => st_plain (by simp only [chkE] at hc; split at hc <;> first | (cases hc; done) | (rename_i x l hx; obtain ⟨p, p2, rfl⟩ := asCall_eq hx; rfl)) (seE (.call f es) W hc)
  | .bi f es, X, W, e, hc => st_plain (by simp only [chkE] at hc; split at hc <;> first | (cases hc; done) | (rename_i x l hx; obtain ⟨p, p2, rfl⟩ := asCall_eq hx; rfl)) (seE (.bi f es) W hc)
  | .glob _ _, _, _, _, _ => fun s σ r H h v h' Q re q ev post => by simp [testC] at ev
  | .bin _ _ _, _, _, _, _ => fun s σ r H h v h' Q re q ev post => by simp [testC] at ev
  | .neg _, _, _, _, _ => fun s σ r H h v h' Q re q ev post => by simp [testC] at ev
  | .ite _ _ _, _, _, _, _ => fun s σ r H h v h' Q re q ev post => by simp [testC] at ev
  | .tup _, _, _, _, _ => fun s σ r H h v h' Q re q ev post => by simp [testC] at ev
  | .lst _, _, _, _, _ => fun s σ r H h v h' Q re q ev post => by simp [testC] at ev
  | .dct0, _, _, _, _ => fun s σ r H h v h' Q re q ev post => by simp [testC] at ev
  | .ix _ _, _, _, _, _ => fun s σ r H h v h' Q re q ev post => by simp [testC] at ev
  | .sl _ _ _, _, _, _, _ => fun s σ r H h v h' Q re q ev post => by simp [testC] at ev
  | .rev _, _, _, _, _ => fun s σ r H h v h' Q re q ev post => by simp [testC] at ev
  | .me _ _ _, _, _, _, _ => fun s σ r H h v h' Q re q ev post => by simp [testC] at ev
  | .comp _ _ _ _, _, _, _, _ => fun s σ r H h v h' Q re q ev post => by simp [testC] at ev
  | .compD _ _ _ _ _, _, _, _, _ => fun s σ r H h v h' Q re q ev post => by simp [testC] at ev
theorem seWA : ∀ (c : CE) {X : Cx} (W : Wd g F X) {eb ec : Expr} {er : List Expr} {p : Pos}, chkE g X.env.scope c (.BoolOp .And (eb :: ec :: er) p) = true → ∃ t, PW X (.BoolOp .And (eb :: ec :: er) p) t ∧ RdT F X c t
  | .and a b, X, W, eb, ec, er, p, hc => by
    simp only [chkE, asBool] at hc
    split at hc
    · rename_i x hx
      cases hx
      simp only [Bool.and_eq_true] at hc
      have hb : RdT F X b _ := seT b W hc.2
      exact andT_step (seT a W hc.1) (pw_and1 ptW) hb
    · rename_i x hx
      cases hx
      simp only [Bool.and_eq_true] at hc
      obtain ⟨t, p3, p4⟩ := seWA b W hc.2
      exact andT_step (seT a W hc.1) p3 p4
    · cases hc
  | .or a b, X, W, eb, ec, er, p, hc => by simp [chkE, asBool] at hc
  | .var _, X, W, eb, ec, er, p, hc => by simp [chkE, asName] at hc
  | .lit _, X, W, eb, ec, er, p, hc => by simp [chkE, asConst] at hc
  | .glob _ _, X, W, eb, ec, er, p, hc => by simp [chkE, asName] at hc
  | .bin _ _ _, X, W, eb, ec, er, p, hc => by simp [chkE, asBin] at hc
  | .cmp _ _ _, X, W, eb, ec, er, p, hc => by simp [chkE, asCmp] at hc
  | .cmp2 _ _ _ _ _, X, W, eb, ec, er, p, hc => by simp [chkE, asCmp] at hc
  | .cmp3 _ _ _ _ _ _ _, X, W, eb, ec, er, p, hc => by simp [chkE, asCmp] at hc
  | .not _, X, W, eb, ec, er, p, hc => by simp [chkE, asUn] at hc
  | .neg _, X, W, eb, ec, er, p, hc => by simp [chkE, asUn] at hc
  | .ite _ _ _, X, W, eb, ec, er, p, hc => by simp [chkE, asIf] at hc
  | .tup _, X, W, eb, ec, er, p, hc => by simp [chkE, asTup] at hc
  | .lst _, X, W, eb, ec, er, p, hc => by simp [chkE, asLst] at hc
  | .dct0, X, W, eb, ec, er, p, hc => by simp [chkE, isDct0] at hc
  | .ix _ _, X, W, eb, ec, er, p, hc => by simp [chkE, asSub] at hc
  | .sl _ _ _, X, W, eb, ec, er, p, hc => by simp [chkE, asSub] at hc
  | .rev _, X, W, eb, ec, er, p, hc => by simp [chkE, asSub] at hc
  | .call _ _, X, W, eb, ec, er, p, hc => by simp [chkE, asCall] at hc
  | .bi _ _, X, W, eb, ec, er, p, hc => by simp [chkE, asCall] at hc
  | .me _ _ _, X, W, eb, ec, er, p, hc => by simp [chkE, asMeth] at hc
  | .comp _ _ _ _, X, W, eb, ec, er, p, hc => by simp [chkE, asComp] at hc
  | .compD _ _ _ _ _, X, W, eb, ec, er, p, hc => by simp [chkE, asComp] at hc
theorem seWO : ∀ (c : CE) {X : Cx} (W : Wd g F X) {eb ec : Expr} {er : List Expr} {p : Pos}, chkE g X.env.scope c (.BoolOp .Or (eb :: ec :: er) p) = true → ∃ t, PW X (.BoolOp .Or (eb :: ec :: er) p) t ∧ RdT F X c t
  | .or a b, X, W, eb, ec, er, p, hc => by
    simp only [chkE, asBool] at hc
    split at hc
    · rename_i x hx
      cases hx
      simp only [Bool.and_eq_true] at hc
      have hb : RdT F X b _ := seT b W hc.2
      exact orT_step (seT a W hc.1) (pw_or1 ptW) hb
    · rename_i x hx
      cases hx
      simp only [Bool.and_eq_true] at hc
      obtain ⟨t, p3, p4⟩ := seWO b W hc.2
      exact orT_step (seT a W hc.1) p3 p4
    · cases hc
  | .and a b, X, W, eb, ec, er, p, hc => by simp [chkE, asBool] at hc
  | .var _, X, W, eb, ec, er, p, hc => by simp [chkE, asName] at hc
  | .lit _, X, W, eb, ec, er, p, hc => by simp [chkE, asConst] at hc
  | .glob _ _, X, W, eb, ec, er, p, hc => by simp [chkE, asName] at hc
  | .bin _ _ _, X, W, eb, ec, er, p, hc => by simp [chkE, asBin] at hc
  | .cmp _ _ _, X, W, eb, ec, er, p, hc => by simp [chkE, asCmp] at hc
  | .cmp2 _ _ _ _ _, X, W, eb, ec, er, p, hc => by simp [chkE, asCmp] at hc
  | .cmp3 _ _ _ _ _ _ _, X, W, eb, ec, er, p, hc => by simp [chkE, asCmp] at hc
  | .not _, X, W, eb, ec, er, p, hc => by simp [chkE, asUn] at hc
  | .neg _, X, W, eb, ec, er, p, hc => by simp [chkE, asUn] at hc
  | .ite _ _ _, X, W, eb, ec, er, p, hc => by simp [chkE, asIf] at hc
  | .tup _, X, W, eb, ec, er, p, hc => by simp [chkE, asTup] at hc
  | .lst _, X, W, eb, ec, er, p, hc => by simp [chkE, asLst] at hc
  | .dct0, X, W, eb, ec, er, p, hc => by simp [chkE, isDct0] at hc
  | .ix _ _, X, W, eb, ec, er, p, hc => by simp [chkE, asSub] at hc
  | .sl _ _ _, X, W, eb, ec, er, p, hc => by simp [chkE, asSub] at hc
  | .rev _, X, W, eb, ec, er, p, hc => by simp [chkE, asSub] at hc
  | .call _ _, X, W, eb, ec, er, p, hc => by simp [chkE, asCall] at hc
  | .bi _ _, X, W, eb, ec, er, p, hc => by simp [chkE, asCall] at hc
  | .me _ _ _, X, W, eb, ec, er, p, hc => by simp [chkE, asMeth] at hc
  | .comp _ _ _ _, X, W, eb, ec, er, p, hc => by simp [chkE, asComp] at hc
  | .compD _ _ _ _ _, X, W, eb, ec, er, p, hc => by simp [chkE, asComp] at hc
end
end
end TH

set_option maxHeartbeats 8000000
/-! Statements: which text they tell; targets. -/
namespace TH
open PySem PySem.Spec PyProof.Rows L2

def asAsg : Stmt → Option (Expr × Expr × Pos)
  | .Assign [tg] e p => some (tg, e, p) | _ => none
def asExprS : Stmt → Option (Expr × Pos)
  | .Expr e p => some (e, p) | _ => none
def asRet : Stmt → Option Expr
  | .Return (some e) _ => some e | _ => none
def isRetN : Stmt → Bool
  | .Return none _ => true | _ => false
def asIfS : Stmt → Option (Expr × List Stmt × List Stmt)
  | .If c a b _ => some (c, a, b) | _ => none
def asFor : Stmt → Option (Expr × Expr × List Stmt)
  | .For tg it b [] _ => some (tg, it, b) | _ => none
def asWh : Stmt → Option (Expr × List Stmt)
  | .While c b [] _ => some (c, b) | _ => none
def isPass : Stmt → Bool
  | .Pass _ => true
  | .Expr (.Constant (.str _) _ _) _ => true
  | _ => false
section
variable {st : Stmt}
theorem asAsg_eq {tg e : Expr} {p : Pos} (h : asAsg st = some (tg, e, p)) : st = .Assign [tg] e p := by
  unfold asAsg at h
  split at h
  · cases h; rfl
  · cases h
theorem asExprS_eq {e : Expr} {p : Pos} (h : asExprS st = some (e, p)) : st = .Expr e p := by cases st <;> simp_all [asExprS]
theorem asRet_eq {e : Expr} (h : asRet st = some e) : ∃ p, st = .Return (some e) p := by
  unfold asRet at h
  split at h
  · cases h; exact ⟨_, rfl⟩
  · cases h
theorem isRetN_eq (h : isRetN st = true) : ∃ p, st = .Return none p := by
  unfold isRetN at h
  split at h
  · exact ⟨_, rfl⟩
  · cases h
theorem asIfS_eq {c : Expr} {a b : List Stmt} (h : asIfS st = some (c, a, b)) : ∃ p, st = .If c a b p := by cases st <;> simp_all [asIfS]
theorem asFor_eq {c i : Expr} {a : List Stmt} (h : asFor st = some (c, i, a)) : ∃ p, st = .For c i a [] p := by
  unfold asFor at h
  split at h
  · cases h; exact ⟨_, rfl⟩
  · cases h
theorem asWh_eq {c : Expr} {a : List Stmt} (h : asWh st = some (c, a)) : ∃ p, st = .While c a [] p := by
  unfold asWh at h
  split at h
  · cases h; exact ⟨_, rfl⟩
  · cases h
end
def isComp : Expr → Bool
  | .ListComp _ _ _ _ => true | .SetComp _ _ _ _ => true | .DictComp _ _ _ _ _ => true | _ => false
def isNm : Expr → Bool
  | .Name _ _ => true | _ => false
def tupOf : Expr → Option (List Expr)
  | .Tuple l _ _ => some l | .List l _ => some l | _ => none
/-- no stores from the right -/
def swNone (tg ev : Expr) : Bool := match tupOf tg, asTup ev with
  | some ts, some vs => !(ts.length == 2 || ts.length == 3) || vs.length != ts.length || (!ts.all isNm) || vs.all (foldedForSure 8)
  | _, _ => true
theorem filterMap_lt {α β : Type} {f : α → Option β} : ∀ {l : List α}, (∃ x ∈ l, f x = none) → (l.filterMap f).length ≠ l.length
  | [], h => by obtain ⟨x, h, _⟩ := h; cases h
  | a :: l, h => by
    rw [List.filterMap_cons]
    have h1 := List.length_filterMap_le f l
    split
    · simp only [List.length_cons]; omega
    · rename_i b hb
      obtain ⟨x, hx, e⟩ := h
      rcases List.mem_cons.mp hx with z | z
      · subst z; rw [hb] at e; cases e
      · have := filterMap_lt (f := f) (l := l) ⟨x, z, e⟩
        simp only [List.length_cons]; omega
theorem swNone_ok {tg ev : Expr} {env : PySem.Env} (h : swNone tg ev = true) : swappedStores [tg] ev env = pure none := by
  have key : ∀ ts vs, tupOf tg = some ts → asTup ev = some vs → swappedStores [tg] ev env = pure none := by
    intro ts vs h1 h2
    obtain ⟨k, p, rfl⟩ := asTup_eq h2
    unfold swNone at h
    rw [h1, h2] at h
    simp only [Bool.or_eq_true] at h
    have e : swappedStores [tg] (.Tuple vs k p) env = (do
      if !(ts.length == 2 || ts.length == 3) || vs.length != ts.length || env.blockKind != .function then return none
      if vs.any fun | .Starred .. => true | _ => false then return none
      let line := (ts.head?.map (·.pos.line)).getD 0
      let names := ts.filterMap fun
        | .Name id pos => if env.kindOf id == some .local && pos.line == line then some id else none
        | _ => none
      if names.length != ts.length || names.eraseDups.length != names.length then return none
      if vs.all (foldedForSure 8) then return none
      if vs.all (constantsAlone 8) then unsupported "assign.tuple-of-constant-expressions:order-of-the-stores"
      return some names) := by
      unfold swappedStores
      cases tg <;> simp [tupOf] at h1 <;> subst h1 <;> rfl
    rw [e]
    rcases h with (h | h) | h
    · rw [if_pos (by simp only [Bool.or_eq_true]; exact .inl h)]
    · split
      · rfl
      · split
        · rfl
        · rw [if_pos ?_]
          simp only [Bool.or_eq_true]
          refine .inl ?_
          rw [bne_iff_ne]
          refine filterMap_lt ?_
          simp only [Bool.not_eq_true', List.all_eq_false] at h
          obtain ⟨x, hx, hn⟩ := h
          refine ⟨x, hx, ?_⟩
          cases x <;> first | rfl | (simp [isNm] at hn)
    · split
      · rfl
      · split
        · rfl
        · try rw [if_pos h]
          dsimp only
          split <;> rfl
  cases h1 : tupOf tg with
  | none => unfold swappedStores; cases tg <;> first | rfl | (simp [tupOf] at h1)
  | some ts =>
    cases h2 : asTup ev with
    | none => unfold swappedStores; cases tg <;> cases ev <;> first | rfl | (simp [tupOf] at h1; done) | (simp [asTup] at h2; done)
    | some vs => exact key ts vs h1 h2
/-- the store of a list made at once -/
def compOk (sc : Scope) (tg ev : Expr) : Bool := match ev with
  | .ListComp _ _ scope pos => (match tg with
    | .Name y py => (sc.names.lookup y == some .local) && (py.line == pos.line) && !(scope.names.any fun (n, k) => n == y && (k == .local || k == .cell))
    | _ => true)
  | _ => !isComp ev
theorem noComp {tg ev : Expr} {l : Nat} {env : PySem.Env} (h : isComp ev = false) : swapsWithSole [tg] ev l env = pure false := by
  show swapsWith ev (some tg) l env = _
  unfold swapsWith
  cases ev <;> first | rfl | (simp [isComp] at h)
theorem noName {tg ev : Expr} {l : Nat} {env : PySem.Env} (h : isNm tg = false) : swapsWithSole [tg] ev l env = pure false := by
  show swapsWith ev (some tg) l env = _
  unfold swapsWith
  cases ev <;> first | rfl | (cases tg <;> first | rfl | (simp [isNm] at h))
theorem noComp0 {ev : Expr} {l : Nat} {env : PySem.Env} (h : isComp ev = false) : swapsWith ev none l env = pure false := by
  unfold swapsWith
  cases ev <;> first | rfl | (simp [isComp] at h)
section
variable (g : Names)
def locB (sc : Scope) (x : Str) : Bool := match sc.names.lookup x with
  | some .local => true | some .cell => true | _ => false
def nmL (sc : Scope) (i : Nat) (x : Str) : Bool := decide (g.N[i]? = some x) && locB sc x
def nmsL (sc : Scope) : List Nat → List Expr → Bool
  | [], l => l.isEmpty
  | i :: is, e :: es => (match asName e with | some x => nmL g sc i x | none => false) && nmsL sc is es
  | _ :: _, [] => false
def chkT (sc : Scope) : CT → Expr → Bool
  | .nm i, e => match asName e with
    | some x => nmL g sc i x
    | none => false
  | .tup is, e => match asTup e with
    | some l => nmsL g sc is l
    | none => false
  | .sub o i, e => match asSub e with
    | some (eo, ei) => chkE g sc o eo && chkE g sc i ei && !isSl ei
    | none => false
  | .subnm o i n, e => match asTup e with
    | some [e1, e2] => (match asSub e1 with
      | some (eo, ei) => chkE g sc o eo && chkE g sc i ei && !isSl ei
      | none => false) && (match asName e2 with | some x => nmL g sc n x | none => false)
    | _ => false
  | .subsub o i o2 i2, e => match asTup e with
    | some [e1, e2] => (match asSub e1 with
      | some (eo, ei) => chkE g sc o eo && chkE g sc i ei && !isSl ei
      | none => false) && (match asSub e2 with
      | some (eo, ei) => chkE g sc o2 eo && chkE g sc i2 ei && !isSl ei
      | none => false)
    | _ => false
def lcB (sc : Scope) (x : Str) : Bool := sc.names.lookup x == some .local
mutual
def chkS (sc : Scope) : CS → Stmt → Bool
  | .asg t e, st => match asAsg st with
    | some (tg, ev, _) => chkE g sc e ev && chkT g sc t tg && swNone tg ev && compOk sc tg ev
    | none => false
  | .par i j a b, st => match asAsg st with
    | some (tg, ev, _) => (match asTup tg, asTup ev with
      | some [e1, e2], some [e3, e4] => (match asName e1, asName e2 with
        | some x, some y => nmL g sc i x && nmL g sc j y && lcB sc x && lcB sc y && decide (i ≠ j) && !(x == y) && (e1.pos.line == e2.pos.line) && chkE g sc a e3 && chkE g sc b e4 && !([e3, e4].all (foldedForSure 8)) && !([e3, e4].all (constantsAlone 8))
        | _, _ => false)
      | _, _ => false)
    | none => false
  | .expr e, st => match asExprS st with
    | some (ev, _) => chkE g sc e ev && !isComp ev
    | none => false
  | .ret e, st => match asRet st with
    | some ev => chkE g sc e ev
    | none => false
  | .retn, st => isRetN st
  | .iff c a b, st => match asIfS st with
    | some (ec, sa, sb) => chkE g sc c ec && chkSs sc a sa && chkSs sc b sb
    | none => false
  | .fo t it b, st => match asFor st with
    | some (tg, ei, sb) => chkT g sc t tg && chkI g sc it ei && chkSs sc b sb
    | none => false
  | .foD t d b, st => match asFor st with
    | some (tg, ei, sb) => (match asName ei with | some y => nmOk g sc d y | none => false) && chkT g sc t tg && chkSs sc b sb
    | none => false
  | .wh c b, st => match asWh st with
    | some (ec, sb) => chkE g sc c ec && chkSs sc b sb
    | none => false
  | .pas, st => isPass st
  | .bad, _ => true
def chkSs (sc : Scope) : CSs → List Stmt → Bool
  | .nil, l => l.isEmpty
  | .cons a as, l => match l with
    | e :: es => chkS sc a e && chkSs sc as es
    | [] => false
end
end
/-! ### the weakest readings -/
def wG (X : Cx) (tg : Expr) : TG := fun v σ H Q => ∀ (pins : List (Addr × Obj)) (s : Shared) (u : Value), Inv X pins σ H s → RelV v u → wpAny (model X.prog X.w) X.A (assign tg X.env u) (fun _ s' => ∃ σ' H', Inv X pins σ' H' s' ∧ Q σ' H') X.xe s
def wSt (X : Cx) (st : Stmt) : TS := fun D σ H => ∀ (pins : List (Addr × Obj)) (s : Shared), Inv X pins σ H s → wpAny (model X.prog X.w) X.A (exec st X.env) (SP X pins D) X.xe s
def wSs (X : Cx) (st : List Stmt) : TS := fun D σ H => ∀ (pins : List (Addr × Obj)) (s : Shared), Inv X pins σ H s → wpAny (model X.prog X.w) X.A (execs st X.env) (SP X pins D) X.xe s
theorem pgW {X : Cx} {tg : Expr} : PG X tg (wG X tg) := ⟨fun pins s σ H v u Q I r h => h pins s u I r⟩
theorem PG.w {X : Cx} {tg : Expr} {t : TG} (p : PG X tg t) {v : V} {σ : L2.St} {H : Hp} {Q : L2.St → Hp → Prop} (h : t v σ H Q) : wG X tg v σ H Q := fun pins s u I r => p.run pins s σ H v u Q I r h
theorem psW {X : Cx} {st : Stmt} : PS X st (wSt X st) := ⟨fun pins s σ H D I h => h pins s I⟩
theorem PS.w {X : Cx} {st : Stmt} {t : TS} (p : PS X st t) {D : Ends} {σ : L2.St} {H : Hp} (h : t D σ H) : wSt X st D σ H := fun pins s I => p.run pins s σ H D I h
theorem pssW {X : Cx} {st : List Stmt} : PSs X st (wSs X st) := ⟨fun pins s σ H D I h => h pins s I⟩
theorem PSs.w {X : Cx} {st : List Stmt} {t : TS} (p : PSs X st t) {D : Ends} {σ : L2.St} {H : Hp} (h : t D σ H) : wSs X st D σ H := fun pins s I => p.run pins s σ H D I h
/-- a def's body -/
structure SW (g : Names) (F : Fns) (X : Cx) : Prop where
  wd : Wd g F X
  fn : ∀ x, X.fn x = true
  kind : X.env.scope.kind = .function
  po : PassesOwn (model X.prog X.w) X.A X.env X.xe
def SG (F : Fns) (X : Cx) (t : CT) (tg : Expr) : Prop := ∀ (s : Env) (σ : L2.St) (r : Ren) (H : Hp) (h : CH) (x : CV) (v : V) (s' : Env) (h' : CH) (Q : L2.St → Hp → Prop), RE X r H s σ → RH X.prog X.w X.K r h H → RV X.K r H x v → asgC F t x s h = some (s', h') →
  (∀ σ' r' H', Step r H r' H' → RE X r' H' s' σ' → RH X.prog X.w X.K r' h' H' → Q σ' H') → wG X tg v σ H Q
def PostS (X : Cx) (r : Ren) (H : Hp) (fl : Fl) (s' : Env) (h' : CH) (D : Ends) : Prop := match fl with
  | .nx => ∀ σ' r' H', Step r H r' H' → RE X r' H' s' σ' → RH X.prog X.w X.K r' h' H' → D.nx σ' H'
  | .rt c => PostE X r H c h' D.rt
def SS (F : Fns) (W : Nat) (X : Cx) (c : CS) (st : Stmt) : Prop := ∀ (s : Env) (σ : L2.St) (r : Ren) (H : Hp) (h : CH) (fl : Fl) (s' : Env) (h' : CH) (D : Ends), RE X r H s σ → RH X.prog X.w X.K r h H → execC F W c s h = some (fl, s', h') → PostS X r H fl s' h' D → wSt X st D σ H
def SSs (F : Fns) (W : Nat) (X : Cx) (c : CSs) (st : List Stmt) : Prop := ∀ (s : Env) (σ : L2.St) (r : Ren) (H : Hp) (h : CH) (fl : Fl) (s' : Env) (h' : CH) (D : Ends), RE X r H s σ → RH X.prog X.w X.K r h H → execCs F W c s h = some (fl, s', h') → PostS X r H fl s' h' D → wSs X st D σ H
section
variable {g : Names} {F : Fns}
theorem loc_of {sc : Scope} {x : Str} (h : locB sc x = true) : Loc sc x := by
  unfold locB at h
  split at h
  · exact .inl (by assumption)
  · exact .inr (by assumption)
  · cases h
theorem nmL_of {X : Cx} {i : Nat} {x : Str} (W : SW g F X) (h : nmL g X.env.scope i x = true) : X.N[i]? = some x ∧ Loc X.env.scope x := by
  unfold nmL at h
  simp only [Bool.and_eq_true, decide_eq_true_eq] at h
  exact ⟨by rw [W.wd.nN]; exact h.1, loc_of h.2⟩
theorem pg_nm {X : Cx} {i : Nat} {x : Str} {p : Pos} (W : SW g F X) (h : nmL g X.env.scope i x = true) : PG X (.Name x p) (gName i) := by
  obtain ⟨h1, h2⟩ := nmL_of W h
  exact pg_name W.wd.nd h1 h2 (.inl (W.fn x))
theorem sg_nm {X : Cx} {i : Nat} {x : Str} {p : Pos} (W : SW g F X) (h : nmL g X.env.scope i x = true) : SG F X (.nm i) (.Name x p) := by
  intro s σ r H h0 y v s' h' Q re q rv ev post
  simp only [asgC, Option.some.injEq, Prod.mk.injEq] at ev
  obtain ⟨rfl, rfl⟩ := ev
  exact PG.w (pg_nm W h) (post _ r H .refl (re.set rv) q)
theorem sg_sub {X : Cx} {o i : CE} {eo ei : Expr} {p : Pos} (W : SW g F X) (so : SE F X o eo) (si : SE F X i ei) (hs : isSl ei = false) : SG F X (.sub o i) (.Subscript eo ei p) := by
  intro s σ r H h y v s' h' Q re q rv ev post
  simp only [asgC, Option.bind_eq_some_iff, Option.map_eq_some_iff] at ev
  obtain ⟨⟨x, h1⟩, e1, ⟨z, h2⟩, e2, h3, e3, e4⟩ := ev
  cases e4
  refine PG.w (pg_sub peW peW setW (by intro v; cases ei <;> first | rfl | (simp [isSl, asSlc] at hs))) ?_
  refine so s σ r H h x h1 _ re q e1 fun v1 r1 H1 st1 q1 rv1 => ?_
  refine si s σ r1 H1 h1 z h2 _ (re.step q st1) q1 e2 fun v2 r2 H2 st2 q2 rv2 => ?_
  have st12 := st1.trans st2
  refine set_ok (by have := W.wd.un; omega) q2 (rv1.step q1 st2) rv2 (rv.step q st12) e3 fun H3 st3 q3 => ?_
  exact post σ r2 H3 (st12.trans st3) (re.step q (st12.trans st3)) q3
def gAll : List Nat → TGs
  | [] => gNil
  | i :: is => gCons (gName i) (gAll is)
theorem pgs_all {X : Cx} (W : SW g F X) : ∀ {is : List Nat} {l : List Expr}, nmsL g X.env.scope is l = true → PGs X l (gAll is) ∧ (assignEach l X.env).length = is.length ∧ (assignEach l X.env).findIdx? (·.1) = none
  | [], l, h => by
    simp only [nmsL, List.isEmpty_iff] at h
    subst h
    exact ⟨pgs_nil, rfl, rfl⟩
  | i :: is, [], h => by simp [nmsL] at h
  | i :: is, e :: es, h => by
    simp only [nmsL, Bool.and_eq_true] at h
    obtain ⟨h1, h2⟩ := h
    split at h1
    · rename_i x hx
      obtain ⟨p, rfl⟩ := asName_eq hx
      obtain ⟨a, b, c⟩ := pgs_all W h2
      refine ⟨pgs_cons (pg_nm W h1) a rfl, by simp [assignEach, b], ?_⟩
      simp only [assignEach, List.findIdx?_cons]
      simp [c]
    · cases h1
theorem gAll_ok {X : Cx} {r : Ren} {H : Hp} {Q : L2.St → Hp → Prop} : ∀ {is : List Nat} {xs : List CV} {vs : List V} {s s' : Env} {σ : L2.St}, RE X r H s σ → RVs X.K r H xs vs → setN s is xs = some s' → (∀ σ', RE X r H s' σ' → Q σ' H) → gAll is vs σ H Q
  | [], [], _, s, s', σ, re, .nil, e, post => by
    simp only [setN, Option.some.injEq] at e
    subst e
    exact ⟨rfl, post σ re⟩
  | i :: is, x :: xs, _, s, s', σ, re, .cons rv t, e, post => ⟨_, _, rfl, gAll_ok (re.set rv) t e post⟩
  | [], _ :: _, _, _, _, _, _, _, e, _ => by simp [setN] at e
  | _ :: _, [], _, _, _, _, _, _, e, _ => by simp [setN] at e
theorem setN_len : ∀ {is : List Nat} {xs : List CV} {s s' : Env}, setN s is xs = some s' → xs.length = is.length
  | [], [], _, _, _ => rfl
  | i :: is, x :: xs, s, s', e => by simp only [List.length_cons]; rw [setN_len (is := is) e]
  | [], _ :: _, _, _, e => by simp [setN] at e
  | _ :: _, [], _, _, e => by simp [setN] at e
theorem sg_tup {X : Cx} {is : List Nat} {l : List Expr} {k : Nat} {p : Pos} (W : SW g F X) (h : nmsL g X.env.scope is l = true) : SG F X (.tup is) (.Tuple l k p) := by
  intro s σ r H h0 y v s' h' Q re q rv ev post
  obtain ⟨a, b, c⟩ := pgs_all W h
  cases rv with
  | tup t us =>
    simp only [asgC, Option.map_eq_some_iff] at ev
    obtain ⟨s2, e1, e2⟩ := ev
    cases e2
    refine PG.w (pg_tup W.wd.calm a b c) ⟨_, _, rfl, SqT.of t, by rw [← us.length]; exact setN_len e1, ?_⟩
    exact gAll_ok re us e1 fun σ' re' => post σ' r H .refl re' q
  | @ref n ad z =>
    simp only [asgC, Option.bind_eq_some_iff, Option.map_eq_some_iff] at ev
    obtain ⟨xs, e0, s2, e1, e2⟩ := ev
    cases e2
    obtain ⟨vs, g, us, _⟩ := rdl_at q e0 z
    refine PG.w (pg_unl W.wd.calm a b c) ⟨_, vs, rfl, g, by rw [← us.length]; exact setN_len e1, ?_⟩
    exact gAll_ok re us e1 fun σ' re' => post σ' r H .refl re' q
  | _ => simp [asgC] at ev
theorem sg_subnm {X : Cx} {o i : CE} {n : Nat} {eo ei : Expr} {x : Str} {p2 p3 p : Pos} {k : Nat} (W : SW g F X) (so : SE F X o eo) (si : SE F X i ei) (hs : isSl ei = false) (hn : nmL g X.env.scope n x = true) : SG F X (.subnm o i n) (.Tuple [.Subscript eo ei p2, .Name x p3] k p) := by
  intro s σ r H h y v s' h' Q re q rv ev post
  simp only [asgC] at ev
  split at ev
  · rename_i c1 c2
    cases rv with | tup t us =>
    obtain ⟨w1, w2, rfl, rw1, rw2⟩ := us.two
    refine PG.w (pg_tup W.wd.calm (pgs_cons (t := wG X (.Subscript eo ei p2)) pgW (pgs_cons (pg_nm W hn) pgs_nil rfl) rfl) rfl rfl) ⟨_, [w1, w2], rfl, SqT.of t, rfl, w1, [w2], rfl, ?_⟩
    simp only [Option.bind_eq_some_iff, Option.map_eq_some_iff] at ev
    obtain ⟨⟨z1, h1⟩, e1, ⟨z2, h2⟩, e2, h3, e3, e4⟩ := ev
    cases e4
    refine sg_sub W so si hs s σ r H h c1 w1 s h' _ re q rw1 ?_ fun σ' r' H' st re' q' => ?_
    · simp only [asgC, Option.bind_eq_some_iff, Option.map_eq_some_iff]
      exact ⟨_, e1, _, e2, _, e3, rfl⟩
    · exact ⟨w2, [], rfl, rfl, post _ r' H' st (re'.set (rw2.step q st)) q'⟩
  · cases ev
theorem sg_subsub {X : Cx} {o i o2 i2 : CE} {eo ei eo2 ei2 : Expr} {p2 p3 p : Pos} {k : Nat} (W : SW g F X) (so : SE F X o eo) (si : SE F X i ei) (hs : isSl ei = false) (so2 : SE F X o2 eo2) (si2 : SE F X i2 ei2) (hs2 : isSl ei2 = false) :
    SG F X (.subsub o i o2 i2) (.Tuple [.Subscript eo ei p2, .Subscript eo2 ei2 p3] k p) := by
  intro s σ r H h y v s' h' Q re q rv ev post
  simp only [asgC] at ev
  split at ev
  · rename_i c1 c2
    cases rv with | tup t us =>
    obtain ⟨w1, w2, rfl, rw1, rw2⟩ := us.two
    refine PG.w (pg_tup W.wd.calm (pgs_cons (t := wG X (.Subscript eo ei p2)) pgW (pgs_cons (t := wG X (.Subscript eo2 ei2 p3)) pgW pgs_nil rfl) rfl) rfl rfl) ⟨_, [w1, w2], rfl, SqT.of t, rfl, w1, [w2], rfl, ?_⟩
    simp only [Option.bind_eq_some_iff, Option.map_eq_some_iff] at ev
    obtain ⟨⟨z1, h1⟩, e1, ⟨z2, h2⟩, e2, h3, e3, ⟨z3, h4⟩, e4, ⟨z5, h5⟩, e5, h6, e6, e7⟩ := ev
    cases e7
    refine sg_sub W so si hs s σ r H h c1 w1 s h3 _ re q rw1 ?_ fun σ' r' H' st re' q' => ?_
    · simp only [asgC, Option.bind_eq_some_iff, Option.map_eq_some_iff]
      exact ⟨_, e1, _, e2, _, e3, rfl⟩
    · refine ⟨w2, [], rfl, ?_⟩
      refine sg_sub W so2 si2 hs2 s σ' r' H' h3 c2 w2 s h' _ re' q' (rw2.step q st) ?_ fun σ2 r2 H2 st2 re2 q2 => ⟨rfl, post σ2 r2 H2 (st.trans st2) re2 q2⟩
      simp only [asgC, Option.bind_eq_some_iff, Option.map_eq_some_iff]
      exact ⟨_, e4, _, e5, _, e6, rfl⟩
  · cases ev
theorem sgT {X : Cx} (W : SW g F X) : ∀ {t : CT} {tg : Expr}, chkT g X.env.scope t tg = true → SG F X t tg
  | .nm i, tg, hc => by
    simp only [chkT] at hc
    split at hc
    · rename_i x hx
      obtain ⟨p, rfl⟩ := asName_eq hx
      exact sg_nm W hc
    · cases hc
  | .tup is, tg, hc => by
    simp only [chkT] at hc
    split at hc
    · rename_i x hx
      obtain ⟨k, p, rfl⟩ := asTup_eq hx
      exact sg_tup W hc
    · cases hc
  | .sub o i, tg, hc => by
    simp only [chkT] at hc
    split at hc
    · rename_i x hx
      obtain ⟨p, rfl⟩ := asSub_eq hx
      simp only [Bool.and_eq_true, Bool.not_eq_true'] at hc
      exact sg_sub W (seE o W.wd hc.1.1) (seE i W.wd hc.1.2) hc.2
    · cases hc
  | .subnm o i n, tg, hc => by
    simp only [chkT] at hc
    split at hc
    · rename_i e1 e2 hx
      obtain ⟨k, p, rfl⟩ := asTup_eq hx
      rw [Bool.and_eq_true] at hc
      obtain ⟨h1, h2⟩ := hc
      split at h1
      · rename_i y hy
        obtain ⟨p2, rfl⟩ := asSub_eq hy
        split at h2
        · rename_i z hz
          obtain ⟨p3, rfl⟩ := asName_eq hz
          simp only [Bool.and_eq_true, Bool.not_eq_true'] at h1
          exact sg_subnm W (seE o W.wd h1.1.1) (seE i W.wd h1.1.2) h1.2 h2
        · cases h2
      · cases h1
    · cases hc
  | .subsub o i o2 i2, tg, hc => by
    simp only [chkT] at hc
    split at hc
    · rename_i e1 e2 hx
      obtain ⟨k, p, rfl⟩ := asTup_eq hx
      rw [Bool.and_eq_true] at hc
      obtain ⟨h1, h2⟩ := hc
      split at h1
      · rename_i y hy
        obtain ⟨p2, rfl⟩ := asSub_eq hy
        split at h2
        · rename_i z hz
          obtain ⟨p3, rfl⟩ := asSub_eq hz
          simp only [Bool.and_eq_true, Bool.not_eq_true'] at h1 h2
          exact sg_subsub W (seE o W.wd h1.1.1) (seE i W.wd h1.1.2) h1.2 (seE o2 W.wd h2.1.1) (seE i2 W.wd h2.1.2) h2.2
        · cases h2
      · cases h1
    · cases hc
end
end TH

set_option maxHeartbeats 8000000
/-! Statements. -/
namespace TH
open PySem PySem.Spec PyProof.Rows L2
section
variable {g : Names} {F : Fns} {W : Nat}
theorem ss_asg {X : Cx} {t : CT} {e : CE} {tg ev : Expr} {p : Pos} (se : SE F X e ev) (sg : SG F X t tg) (h1 : swNone tg ev = true) (h2 : ∀ l, swapsWithSole [tg] ev l X.env = pure false) (h3 : (assignEach [tg] X.env).map (·.2) = [assign tg X.env]) : SS F W X (.asg t e) (.Assign [tg] ev p) := by
  intro s σ r H h fl s' h' D re q eq post
  simp only [execC, Option.bind_eq_some_iff, Option.map_eq_some_iff] at eq
  obtain ⟨⟨x, h1'⟩, e1, ⟨s2, h2'⟩, e2, e3⟩ := eq
  cases e3
  refine PS.w (ps_asg peW pgW (h2 _) (swNone_ok h1) h3) ?_
  refine se s σ r H h x h1' _ re q e1 fun v r1 H1 st1 q1 rv => ?_
  exact sg s σ r1 H1 h1' x v _ _ _ (re.step q st1) q1 rv e2 fun σ' r' H' st re' q' => post σ' r' H' (st1.trans st) re' q'
theorem lc_ok {sc : Scope} {y : Str} (h : (sc.names.lookup y == some .local) = true) : sc.names.lookup y = some .local := by
  cases e : sc.names.lookup y with
  | none => rw [e] at h; cases h
  | some k => cases k <;> first | rfl | (rw [e] at h; cases h)
theorem ss_lc {X : Cx} {j : Nat} {elt cond : CE} {it : CI} {i : Nat} {ee ei : Expr} {ifs : List Expr} {x y : Str} {scope : Scope} {px py pos p : Pos} (w : SW g F X) (hb : blkB g X.env.scope scope i x = true)
    (se : ∀ s0 H0 C cl fp, SE F (fX X s0 H0 scope C cl fp) elt ee) (hi : (∃ ec, ifs = [ec] ∧ ∀ s0 H0 C cl fp, ST F (fX X s0 H0 scope C cl fp) cond ec) ∨ (ifs = [] ∧ cond = .lit (.bl true)))
    (si : SI F X it ei) (hset : isSet ei = false) (hn : nmL g X.env.scope j y = true) (hl : X.env.scope.names.lookup y = some .local) (hln : (py.line == pos.line) = true) (ha : (scope.names.any fun (n, k) => n == y && (k == .local || k == .cell)) = false) :
    SS F W X (.asg (.nm j) (.comp elt i it cond)) (.Assign [.Name y py] (.ListComp ee [⟨.Name x px, ei, ifs, 0⟩] scope pos) p) := by
  intro s σ r H h fl s' h' D re q eq post
  simp only [execC, asgC, Option.bind_eq_some_iff, Option.map_eq_some_iff] at eq
  obtain ⟨⟨v, h1'⟩, e1, ⟨s2, h2'⟩, e2, e3⟩ := eq
  cases e2
  cases e3
  obtain ⟨n1, n2⟩ := nmL_of w hn
  have hb' := hb
  unfold blkB at hb'
  simp only [Bool.and_eq_true, decide_eq_true_eq] at hb'
  obtain ⟨⟨b1, b2⟩, b3⟩ := hb'
  obtain ⟨l1, l2⟩ := st_loc b3
  have ps := ps_setLc (X := X) (spos := p) (own := [(x, i)]) w.wd.calm w.wd.nd n1 hl (sw_true (gs := [⟨.Name x px, ei, ifs, 0⟩]) (elt := ee) w.kind hl hln ha) (piW (X := X) (tg := .Name x px) (e := ei)) (blkOk_by (by rw [w.wd.nN]; exact b2))
    (fun s0 H0 C cl fp => pg_name w.wd.nd (by show X.N[i]? = some x; rw [w.wd.nN]; exact b1) l1 l2) (tt := uIf X scope ifs)
    (fun s0 H0 C cl fp => by
      rcases hi with ⟨ec, rfl, _⟩ | ⟨rfl, _⟩
      · exact pts_one ⟨fun pins s σ H Q I h => h s0 H0 C cl fp pins s I⟩
      · exact pts_nil) (te := uE X scope ee)
    (fun s0 H0 C cl fp => ⟨fun pins s σ H Q I h => h s0 H0 C cl fp pins s I⟩) (fold_of hset)
  refine PS.w ps ?_
  refine comp_rd w.wd hb se hi si hset s σ r H h v h1' _ re q e1 fun v2 r2 H2 st2 q2 rv2 => ?_
  exact post _ r2 H2 st2 ((re.step q st2).set rv2) q2
theorem ss_lcD {X : Cx} {j : Nat} {elt cond : CE} {i d : Nat} {vl : Bool} {ee ei : Expr} {ifs : List Expr} {x y : Str} {scope : Scope} {px py pos p : Pos} (w : SW g F X) (hb : blkB g X.env.scope scope i x = true)
    (se : ∀ s0 H0 C cl fp, SE F (fX X s0 H0 scope C cl fp) elt ee) (hi : (∃ ec, ifs = [ec] ∧ ∀ s0 H0 C cl fp, ST F (fX X s0 H0 scope C cl fp) cond ec) ∨ (ifs = [] ∧ cond = .lit (.bl true)))
    (hv : (vl = false ∧ ∃ y py, ei = .Name y py ∧ nmOk g X.env.scope d y = true) ∨ (vl = true ∧ ∃ y py ap p, ei = .Call (.Attribute (.Name y py) "values" ap) [] [] p ∧ nmOk g X.env.scope d y = true ∧ (ap.endLine == p.line) = true))
    (hn : nmL g X.env.scope j y = true) (hl : X.env.scope.names.lookup y = some .local) (hln : (py.line == pos.line) = true) (ha : (scope.names.any fun (n, k) => n == y && (k == .local || k == .cell)) = false) :
    SS F W X (.asg (.nm j) (.compD elt i vl d cond)) (.Assign [.Name y py] (.ListComp ee [⟨.Name x px, ei, ifs, 0⟩] scope pos) p) := by
  intro s σ r H h fl s' h' D re q eq post
  simp only [execC, asgC, Option.bind_eq_some_iff, Option.map_eq_some_iff] at eq
  obtain ⟨⟨v, h1'⟩, e1, ⟨s2, h2'⟩, e2, e3⟩ := eq
  cases e2
  cases e3
  obtain ⟨n1, n2⟩ := nmL_of w hn
  have hb' := hb
  unfold blkB at hb'
  simp only [Bool.and_eq_true, decide_eq_true_eq] at hb'
  obtain ⟨⟨b1, b2⟩, b3⟩ := hb'
  obtain ⟨l1, l2⟩ := st_loc b3
  refine compD_core (px := px) (pos := pos) (Q := fun v2 H2 => D.nx (σ.set j (some v2)) H2) w.wd hb se hi hv re q e1 (fun v2 r2 H2 st2 q2 rv2 => post _ r2 H2 st2 ((re.step q st2).set rv2) q2) fun wi pi hset hw => ?_
  have ps := ps_setLc (X := X) (spos := p) (own := [(x, i)]) w.wd.calm w.wd.nd n1 hl (sw_true (gs := [⟨.Name x px, ei, ifs, 0⟩]) (elt := ee) w.kind hl hln ha) pi (blkOk_by (by rw [w.wd.nN]; exact b2))
    (fun s0 H0 C cl fp => pg_name w.wd.nd (by show X.N[i]? = some x; rw [w.wd.nN]; exact b1) l1 l2) (tt := uIf X scope ifs)
    (fun s0 H0 C cl fp => by
      rcases hi with ⟨ec, rfl, _⟩ | ⟨rfl, _⟩
      · exact pts_one ⟨fun pins s σ H Q I h => h s0 H0 C cl fp pins s I⟩
      · exact pts_nil) (te := uE X scope ee)
    (fun s0 H0 C cl fp => ⟨fun pins s σ H Q I h => h s0 H0 C cl fp pins s I⟩) (fold_of hset)
  obtain ⟨a, u, ga, mu, hw⟩ := hw
  exact PS.w (ps_lock ps) ⟨a, u, ga, mu, fun od => hw od⟩
theorem ss_par {X : Cx} {i j : Nat} {a b : CE} {ea eb : Expr} {x y : Str} {px py pt pt2 p : Pos} {kt k2 : Nat} (w : SW g F X) (sa : SE F X a ea) (sb : SE F X b eb) (ha : star ea = false) (hb : star eb = false) (hx : nmL g X.env.scope i x = true) (hy : nmL g X.env.scope j y = true) (lx : lcB X.env.scope x = true) (ly : lcB X.env.scope y = true)
    (hij : i ≠ j) (hxy : (x == y) = false) (hln : (px.line == py.line) = true) (hf : [ea, eb].all (foldedForSure 8) = false) (hk : [ea, eb].all (constantsAlone 8) = false) :
    SS F W X (.par i j a b) (.Assign [.Tuple [.Name x px, .Name y py] kt pt] (.Tuple [ea, eb] k2 pt2) p) := by
  intro s σ r H h fl s' h' D re q eq post
  simp only [execC, Option.bind_eq_some_iff, Option.map_eq_some_iff] at eq
  obtain ⟨⟨v, h1'⟩, e1, ⟨u, h2'⟩, e2, e3⟩ := eq
  cases e3
  obtain ⟨n1, n2⟩ := nmL_of w hx
  obtain ⟨n3, n4⟩ := nmL_of w hy
  have hsw : swappedStores [.Tuple [.Name x px, .Name y py] kt pt] (.Tuple [ea, eb] k2 pt2) X.env = pure (some [x, y]) := by
    have k1 : X.env.kindOf x = some .local := lc_ok lx
    have ky2 : X.env.kindOf y = some .local := lc_ok ly
    have hbk : X.env.blockKind = .function := by unfold Env.blockKind; rw [w.kind]; rfl
    have hln2 : (py.line == px.line) = true := by
      rw [beq_iff_eq] at hln ⊢; exact hln.symm
    have hyx : (y == x) = false := by
      rw [beq_eq_false_iff_ne] at hxy ⊢; exact fun e => hxy e.symm
    have hst : [ea, eb].any (fun | .Starred .. => true | _ => false) = false := by
      simp only [List.any_cons, List.any_nil, Bool.or_false, Bool.or_eq_false_iff]
      constructor
      · cases ea <;> first | rfl | (simp [star] at ha)
      · cases eb <;> first | rfl | (simp [star] at hb)
    have hfm : [Expr.Name x px, Expr.Name y py].filterMap (fun | .Name id pos => if X.env.kindOf id == some .local && pos.line == px.line then some id else none | _ => none) = [x, y] := by
      have b1 : (X.env.kindOf x == some NameKind.local && px.line == px.line) = true := by rw [k1]; simp
      have b2 : (X.env.kindOf y == some NameKind.local && py.line == px.line) = true := by rw [ky2, hln2]; simp
      rw [List.filterMap_cons]
      simp only [b1, if_true]
      rw [List.filterMap_cons]
      simp only [b2, if_true]
      rfl
    have hed : ([x, y] : List Str).eraseDups = [x, y] := by
      rw [List.eraseDups_cons, List.filter_cons, hyx]
      simp [List.eraseDups_cons]
    have e : swappedStores [.Tuple [.Name x px, .Name y py] kt pt] (.Tuple [ea, eb] k2 pt2) X.env = (do
      if X.env.blockKind != .function then return none
      if [ea, eb].any fun | .Starred .. => true | _ => false then return none
      let names := [Expr.Name x px, Expr.Name y py].filterMap fun
        | .Name id pos => if X.env.kindOf id == some .local && pos.line == px.line then some id else none
        | _ => none
      if names.length != 2 || names.eraseDups.length != names.length then return none
      if [ea, eb].all (foldedForSure 8) then return none
      if [ea, eb].all (constantsAlone 8) then unsupported "assign.tuple-of-constant-expressions:order-of-the-stores"
      return some names) := rfl
    rw [e, hbk, hfm]
    simp only [hed]
    rw [if_neg (by decide), if_neg (by rw [hst]; decide), if_neg (by simp), if_neg (by rw [hf]; decide), if_neg (by rw [hk]; decide)]
  refine PS.w (ps_par w.wd.calm w.wd.nd n1 n3 hij (lc_ok lx) (lc_ok ly) (pa_cons peW (pa_cons peW pa_nil (star_each hb)) (star_each ha)) hsw) ?_
  refine sa s σ r H h v h1' _ re q e1 fun v1 r1 H1 st1 q1 rv1 => ?_
  refine sb s σ r1 H1 h1' u h2' _ (re.step q st1) q1 e2 fun v2 r2 H2 st2 q2 rv2 => ?_
  exact ⟨v1, v2, rfl, post _ r2 H2 (st1.trans st2) (((re.step q (st1.trans st2)).set (rv1.step q1 st2)).set rv2) q2⟩
theorem PostS.step {X : Cx} {r r1 : Ren} {H H1 : Hp} {fl : Fl} {s' : Env} {h' : CH} {D : Ends} (p : PostS X r H fl s' h' D) (st : Step r H r1 H1) : PostS X r1 H1 fl s' h' D := by
  cases fl with
  | nx => exact fun σ' r' H' st' re q => p σ' r' H' (st.trans st') re q
  | rt c => exact fun v r' H' st' q rv => p v r' H' (st.trans st') q rv
/-- a for's turns -/
theorem for_loop {X : Cx} {t : CT} {tg : Expr} {b : CSs} {sb : List Stmt} {src : Src} {J : It} {r : Ren} {H : Hp} {h : CH} {s s' : Env} {σ : L2.St} {h' : CH} {fl : Fl} {n : Nat} {D : Ends} (sg : SG F X t tg) (hb : SSs F W X b sb) (rj : RJ X r H src J) (q : RH X.prog X.w X.K r h H) (re : RE X r H s σ)
    (e : forGo src (fun x s h => (asgC F t x s h).bind fun q => execCs F W b q.1 q.2) n 0 s h = some (fl, s', h')) (post : PostS X r H fl s' h' D) :
    ∃ W' : Nat → Nat → L2.St → Hp → Prop, (∃ m, W' 0 m σ H) ∧ ∀ i m σ H, W' i m σ H → (J.stop i H ∧ D.nx σ H) ∨ (J.go i H ∧ ∃ N : L2.St → Hp → Prop, (∀ σ' H', N σ' H' → ∃ m', m' < m ∧ W' (i + 1) m' σ' H') ∧ ∀ x H', J.yld i H x H' → wG X tg x σ H' fun σ2 H2 => wSs X sb { D with nx := N, ct := N, bk := D.nx } σ2 H2) := by
  refine ⟨fun j k σ3 H3 => ∃ r3 h3 s3, Step r H r3 H3 ∧ RH X.prog X.w X.K r3 h3 H3 ∧ RE X r3 H3 s3 σ3 ∧ forGo src (fun x s h => (asgC F t x s h).bind fun q => execCs F W b q.1 q.2) k j s3 h3 = some (fl, s', h'), ⟨n, r, h, s, .refl, q, re, e⟩, ?_⟩
  rintro j k σ3 H3 ⟨r3, h3, s3, st, q3, re3, e3⟩
  have rjj := rj j r3 H3 h3 st q3
  cases k with
  | zero =>
    unfold forGo at e3
    split at e3
    · rename_i hi
      cases e3
      rw [hi] at rjj
      exact .inl ⟨rjj, post σ3 r3 H3 st re3 q3⟩
    · cases e3
  | succ k =>
    unfold forGo at e3
    split at e3
    · rename_i x hi
      rw [hi] at rjj
      obtain ⟨go, yl⟩ := rjj
      refine .inr ⟨go, fun σ4 H4 => ∃ r3 h3 s3, Step r H r3 H4 ∧ RH X.prog X.w X.K r3 h3 H4 ∧ RE X r3 H4 s3 σ4 ∧ forGo src (fun x s h => (asgC F t x s h).bind fun q => execCs F W b q.1 q.2) k (j + 1) s3 h3 = some (fl, s', h'),
        fun σ4 H4 z => ⟨k, Nat.lt_succ_self _, z⟩, fun v H4 y => ?_⟩
      obtain ⟨rfl, rv⟩ := yl v H4 y
      cases ea : asgC F t x s3 h3 with
      | none => rw [ea] at e3; cases e3
      | some p =>
        obtain ⟨s4, h4⟩ := p
        rw [ea] at e3
        simp only [Option.bind_some] at e3
        refine sg s3 σ3 r3 H4 h3 x v s4 h4 _ re3 q3 rv ea fun σ5 r5 H5 st5 re5 q5 => ?_
        have st05 := st.trans st5
        cases eb : execCs F W b s4 h4 with
        | none => rw [eb] at e3; cases e3
        | some p =>
          obtain ⟨fl2, s6, h6⟩ := p
          rw [eb] at e3
          refine hb s4 σ5 r5 H5 h4 fl2 s6 h6 _ re5 q5 eb ?_
          cases fl2 with
          | nx => exact fun σ7 r7 H7 st7 re7 q7 => ⟨r7, h6, s6, st05.trans st7, q7, re7, e3⟩
          | rt c =>
            simp only [Option.some.injEq, Prod.mk.injEq] at e3
            obtain ⟨rfl, rfl, rfl⟩ := e3
            exact fun v7 r7 H7 st7 q7 rv7 => post v7 r7 H7 (st05.trans st7) q7 rv7
    · cases e3
theorem ss_foD {X : Cx} {t : CT} {d : Nat} {b : CSs} {tg : Expr} {sb : List Stmt} {y : Str} {py p : Pos} (w : SW g F X) (hy : nmOk g X.env.scope d y = true) (sg : SG F X t tg) (tb : SSs F W X b sb) :
    SS F W X (.foD t d b) (.For tg (.Name y py) sb [] p) := by
  intro s σ r H h fl s' h' D re q eq post
  simp only [execC] at eq
  split at eq
  · rename_i n hd
    simp only [Option.bind_eq_some_iff, Option.map_eq_some_iff] at eq
    obtain ⟨h1, e1, ⟨fl2, s2, h2⟩, e2, h3, e3, e4⟩ := eq
    simp only [Prod.mk.injEq] at e4
    obtain ⟨rfl, rfl, rfl⟩ := e4
    obtain ⟨v, hw, rv⟩ := re.at' d _ hd
    cases rv with | @ref _ a z =>
    obtain ⟨kvs, u, hm, rfl, ga, mu, nf, dd, ql⟩ := lock_use q z e1
    have nt : ∀ vs, u ≠ .tup vs := fun vs y => by
      rcases dd with ⟨es, rfl, _⟩ | ⟨es, rfl, _⟩ <;> cases y
    have nl : ∀ vs, u ≠ .lst vs := fun vs y => by
      rcases dd with ⟨es, rfl, _⟩ | ⟨es, rfl, _⟩ <;> cases y
    have stl : ∀ od, ∀ b v, Kp v → H b = some v → upd H a (.frz od u) b = some v := fun od b v k y => by
      rw [upd_ne (fun w => by rw [w, ga] at y; cases y; cases k with | tup vs => exact nt vs rfl | frz o vs => exact nf o _ rfl)]; exact y
    have rel : ∀ od, RE X r (upd H a (.frz od u)) s σ := fun od => ⟨re.len, fun j x e => let ⟨v, a, b⟩ := re.at' j x e; ⟨v, a, b.keep (stl od) fun _ _ e => e⟩⟩
    have len : (Src.keys n).len (h.set n (.lkd kvs)) = kvs.length := by
      show (match (h.set n (.lkd kvs))[n]? with | some (.lkd kvs) => kvs.length | _ => 0) = _
      rw [List.getElem?_set_self (List.getElem?_eq_some_iff.mp hm).1]
    rw [len] at e2
    obtain ⟨n1, n2, n3, n4⟩ := nmOk_of w.wd hy
    refine PS.w (ps_lock (ps_for w.po w.wd.calm (pi_keys (pe_var n1 n2 n3 n4)) pgW pssW fun _ => rfl)) ⟨a, u, ga, mu, fun od => ?_⟩
    have back : ∀ {r' H' v c}, H' a = some (.frz od u) → RV X.K r' H' c v → RV X.K r' (upd H' a u) c v := fun {r' H' v c} g1 rv =>
      rv.keep (fun b v k y => by rw [upd_ne (fun w => by rw [w, g1] at y; cases y; cases k; exact nl _ rfl)]; exact y) fun _ _ e => e
    have post2 : PostS X r (upd H a (.frz od u)) fl2 s2 h2 ⟨fun σ' H' => H' a = some (.frz od u) ∧ D.nx σ' (upd H' a u), fun v H' => H' a = some (.frz od u) ∧ D.rt v (upd H' a u), fun σ' H' => H' a = some (.frz od u) ∧ D.bk σ' (upd H' a u), fun σ' H' => H' a = some (.frz od u) ∧ D.ct σ' (upd H' a u)⟩ := by
      cases fl2 with
      | nx =>
        intro σ' r' H' st re' q'
        obtain ⟨g1, g2, g3⟩ := unlock_use z ga nf nt nl st q' e3
        exact ⟨g1, post σ' r' _ g2 ⟨re'.len, fun j x e => let ⟨v, a, b⟩ := re'.at' j x e; ⟨v, a, back g1 b⟩⟩ g3⟩
      | rt c =>
        intro v r' H' st q' rv
        obtain ⟨g1, g2, g3⟩ := unlock_use z ga nf nt nl st q' e3
        exact ⟨g1, post v r' _ g2 g3 (back g1 rv)⟩
    rcases dd with ⟨es, rfl, dd⟩ | ⟨es, rfl, dd⟩
    · exact ⟨.ref a, hw, a, od, rfl, .inl ⟨es, upd_same, for_loop sg tb (rj_keysK z upd_same) (ql od) (rel od) e2 post2⟩⟩
    · exact ⟨.ref a, hw, a, od, rfl, .inr ⟨es, upd_same, for_loop sg tb (rj_keysT z upd_same) (ql od) (rel od) e2 post2⟩⟩
  · cases eq
theorem wh_loop {X : Cx} {c : CE} {ec : Expr} {b : CSs} {sb : List Stmt} {r : Ren} {H : Hp} {h : CH} {s s' : Env} {σ : L2.St} {h' : CH} {fl : Fl} {n : Nat} {D : Ends} (tc : ST F X c ec) (hb : SSs F W X b sb) (q : RH X.prog X.w X.K r h H) (re : RE X r H s σ)
    (e : whGo (testC F c) (execCs F W b) n s h = some (fl, s', h')) (post : PostS X r H fl s' h' D) :
    ∃ W' : Nat → L2.St → Hp → Prop, (∃ m, W' m σ H) ∧ ∀ m σ H, W' m σ H → wT X ec σ H fun k H1 => if k = true then ∃ N : L2.St → Hp → Prop, (∀ σ' H', N σ' H' → ∃ m', m' < m ∧ W' m' σ' H') ∧ wSs X sb { D with nx := N, ct := N, bk := D.nx } σ H1 else D.nx σ H1 := by
  refine ⟨fun k σ3 H3 => ∃ r3 h3 s3, Step r H r3 H3 ∧ RH X.prog X.w X.K r3 h3 H3 ∧ RE X r3 H3 s3 σ3 ∧ whGo (testC F c) (execCs F W b) k s3 h3 = some (fl, s', h'), ⟨n, r, h, s, .refl, q, re, e⟩, ?_⟩
  rintro k σ3 H3 ⟨r3, h3, s3, st, q3, re3, e3⟩
  cases k with
  | zero => cases e3
  | succ k =>
    unfold whGo at e3
    split at e3
    · rename_i h1 ht
      refine tc s3 σ3 r3 H3 h3 true h1 _ re3 q3 ht fun r4 H4 st4 q4 => ?_
      rw [if_pos rfl]
      refine ⟨fun σ4 H4 => ∃ r3 h3 s3, Step r H r3 H4 ∧ RH X.prog X.w X.K r3 h3 H4 ∧ RE X r3 H4 s3 σ4 ∧ whGo (testC F c) (execCs F W b) k s3 h3 = some (fl, s', h'), fun σ' H' z => ⟨k, Nat.lt_succ_self _, z⟩, ?_⟩
      have st04 := st.trans st4
      cases eb : execCs F W b s3 h1 with
      | none => rw [eb] at e3; cases e3
      | some p =>
        obtain ⟨fl2, s6, h6⟩ := p
        rw [eb] at e3
        refine hb s3 σ3 r4 H4 h1 fl2 s6 h6 _ (re3.step q3 st4) q4 eb ?_
        cases fl2 with
        | nx => exact fun σ7 r7 H7 st7 re7 q7 => ⟨r7, h6, s6, st04.trans st7, q7, re7, e3⟩
        | rt c =>
          simp only [Option.some.injEq, Prod.mk.injEq] at e3
          obtain ⟨rfl, rfl, rfl⟩ := e3
          exact fun v7 r7 H7 st7 q7 rv7 => post v7 r7 H7 (st04.trans st7) q7 rv7
    · rename_i h1 ht
      cases e3
      refine tc _ σ3 r3 H3 h3 false _ _ re3 q3 ht fun r4 H4 st4 q4 => ?_
      rw [if_neg Bool.false_ne_true]
      exact post σ3 r4 H4 (st.trans st4) (re3.step q3 st4) q4
    · cases e3
theorem chkT_one {X : Cx} {t : CT} {tg : Expr} (h : chkT g X.env.scope t tg = true) : (assignEach [tg] X.env).map (·.2) = [assign tg X.env] := by
  cases tg with
  | Starred _ _ => cases t <;> simp [chkT, asName, asTup, asSub] at h
  | _ => rfl
theorem isPass_ok {X : Cx} {st : Stmt} (h : isPass st = true) : PS X st tNext := by
  unfold isPass at h
  split at h
  · exact ps_pass
  · exact ps_doc
  · cases h
theorem chkI_set {g : Names} {sc : Scope} {it : CI} {ei : Expr} (h1 : chkI g sc it ei = true) : isSet ei = false := by
  cases it with
  | val a => simp only [chkI, Bool.and_eq_true, Bool.not_eq_true'] at h1; exact h1.2
  | range1 a => cases ei <;> first | rfl | (simp [chkI, asCall] at h1)
  | range2 a b => cases ei <;> first | rfl | (simp [chkI, asCall] at h1)
theorem asg_at {X : Cx} (w : SW g F X) {t : CT} {e : CE} {tg ev : Expr} {p : Pos} (h1 : chkE g X.env.scope e ev = true) (h2 : chkT g X.env.scope t tg = true) (h3 : swNone tg ev = true) (h4 : compOk X.env.scope tg ev = true) : SS F W X (.asg t e) (.Assign [tg] ev p) := by
  have plain : (∀ l, swapsWithSole [tg] ev l X.env = pure false) → SS F W X (.asg t e) (.Assign [tg] ev p) := fun h => ss_asg (seE e w.wd h1) (sgT w h2) h3 h (chkT_one h2)
  cases hc : isComp ev with
  | false => exact plain fun l => noComp hc
  | true =>
    cases hn : isNm tg with
    | false => exact plain fun l => noName hn
    | true =>
      cases ev with
      | ListComp ee gs scope pos =>
        cases tg with
        | Name y py =>
          simp only [compOk, Bool.and_eq_true, Bool.not_eq_true'] at h4
          obtain ⟨⟨k1, k2⟩, k3⟩ := h4
          have kl := lc_ok k1
          have hj : ∃ j, t = .nm j ∧ nmL g X.env.scope j y = true := by
            cases t with
            | nm j => exact ⟨j, rfl, by simpa [chkT, asName] using h2⟩
            | _ => simp [chkT, asTup, asSub] at h2
          obtain ⟨j, rfl, hj⟩ := hj
          cases e with
          | comp elt i it cond =>
            simp only [chkE] at h1
            split at h1
            · rename_i ee' x ei ifs scope' hx
              obtain ⟨q1, q2, eq⟩ := asComp_eq hx
              cases eq
              simp only [Bool.and_eq_true] at h1
              obtain ⟨⟨⟨m1, m2⟩, m3⟩, m4⟩ := h1
              refine ss_lc w m2 (fun s0 H0 C cl fp => seE elt (X := fX X s0 H0 scope C cl fp) w.wd.blk m3) ?_ (seI it w.wd m1) (chkI_set m1) hj kl k2 k3
              split at m4
              · split at m4
                · exact .inr ⟨rfl, rfl⟩
                · cases m4
              · exact .inl ⟨_, rfl, fun s0 H0 C cl fp => seT cond (X := fX X s0 H0 scope C cl fp) w.wd.blk m4⟩
              · cases m4
            · cases h1
          | compD elt i vl d cond =>
            simp only [chkE] at h1
            split at h1
            · rename_i ee' x ei ifs scope' hx
              obtain ⟨q1, q2, eq⟩ := asComp_eq hx
              cases eq
              simp only [Bool.and_eq_true] at h1
              obtain ⟨⟨⟨m1, m2⟩, m3⟩, m4⟩ := h1
              refine ss_lcD w m2 (fun s0 H0 C cl fp => seE elt (X := fX X s0 H0 scope C cl fp) w.wd.blk m3) ?_ ?_ hj kl k2 k3
              · split at m4
                · split at m4
                  · exact .inr ⟨rfl, rfl⟩
                  · cases m4
                · exact .inl ⟨_, rfl, fun s0 H0 C cl fp => seT cond (X := fX X s0 H0 scope C cl fp) w.wd.blk m4⟩
                · cases m4
              · cases vl with
                | false =>
                  dsimp only at m1
                  split at m1
                  · rename_i y hy
                    obtain ⟨p3, rfl⟩ := asName_eq hy
                    exact .inl ⟨rfl, y, p3, rfl, m1⟩
                  · cases m1
                | true =>
                  dsimp only at m1
                  split at m1
                  · rename_i eo nm ap p4 hm
                    split at m1
                    · rename_i y hy
                      obtain ⟨p3, rfl⟩ := asName_eq hy
                      simp only [Bool.and_eq_true, decide_eq_true_eq] at m1
                      obtain ⟨⟨h5, rfl⟩, h6⟩ := m1
                      exact .inr ⟨rfl, y, p3, ap, p4, asMeth_eq hm, h5, h6⟩
                    · cases m1
                  · cases m1
            · cases h1
          | _ => simp [chkE, asName, asConst, asBin, asCmp, asBool, asUn, asIf, asTup, asLst, isDct0, asSub, asCall, asMeth] at h1
        | _ => simp [isNm] at hn
      | SetComp _ _ _ _ => simp [compOk, isComp] at h4
      | DictComp _ _ _ _ _ => simp [compOk, isComp] at h4
      | _ => simp [isComp] at hc
mutual
theorem ssS : ∀ (c : CS) {X : Cx} (w : SW g F X) {st : Stmt}, chkS g X.env.scope c st = true → SS F W X c st
  | .asg t e, X, w, st, hc => by
    simp only [chkS] at hc
    split at hc
    · rename_i tg ev p hx
      cases asAsg_eq hx
      simp only [Bool.and_eq_true] at hc
      obtain ⟨⟨⟨h1, h2⟩, h3⟩, h4⟩ := hc
      exact asg_at w h1 h2 h3 h4
    · cases hc
  | .par i j a b, X, w, st, hc => by
    simp only [chkS] at hc
    split at hc
    · rename_i tg ev p hx
      cases asAsg_eq hx
      split at hc
      · rename_i e1 e2 e3 e4 h1 h2
        obtain ⟨k1, p1, rfl⟩ := asTup_eq h1
        obtain ⟨k2, p2, rfl⟩ := asTup_eq h2
        split at hc
        · rename_i x y h3 h4
          obtain ⟨p3, rfl⟩ := asName_eq h3
          obtain ⟨p4, rfl⟩ := asName_eq h4
          simp only [Bool.and_eq_true, decide_eq_true_eq, Bool.not_eq_true'] at hc
          obtain ⟨⟨⟨⟨⟨⟨⟨⟨⟨⟨m1, m2⟩, m3⟩, m4⟩, m5⟩, m6⟩, m7⟩, m8⟩, m9⟩, m10⟩, m11⟩ := hc
          exact ss_par w (seE a w.wd m8) (seE b w.wd m9) (chk_star m8) (chk_star m9) m1 m2 m3 m4 m5 m6 m7 m10 m11
        · cases hc
      · cases hc
    · cases hc
  | .expr e, X, w, st, hc => by
    simp only [chkS] at hc
    split at hc
    · rename_i ev p hx
      cases asExprS_eq hx
      simp only [Bool.and_eq_true, Bool.not_eq_true'] at hc
      have se := seE e w.wd hc.1
      intro s σ r H h fl s' h' D re q eq post
      simp only [execC, Option.map_eq_some_iff] at eq
      obtain ⟨⟨x, h1⟩, e1, e2⟩ := eq
      cases e2
      exact PS.w (ps_expr peW (noComp0 hc.2)) (se s σ r H h x h1 _ re q e1 fun v r1 H1 st1 q1 rv => post σ r1 H1 st1 (re.step q st1) q1)
    · cases hc
  | .ret e, X, w, st, hc => by
    simp only [chkS] at hc
    split at hc
    · rename_i ev hx
      obtain ⟨p, rfl⟩ := asRet_eq hx
      have se := seE e w.wd hc
      intro s σ r H h fl s' h' D re q eq post
      simp only [execC, Option.map_eq_some_iff] at eq
      obtain ⟨⟨x, h1⟩, e1, e2⟩ := eq
      cases e2
      exact PS.w (ps_ret peW) (se s σ r H h x h1 _ re q e1 post)
    · cases hc
  | .retn, X, w, st, hc => by
    simp only [chkS] at hc
    obtain ⟨p, rfl⟩ := isRetN_eq hc
    intro s σ r H h fl s' h' D re q eq post
    simp only [execC, Option.some.injEq, Prod.mk.injEq] at eq
    obtain ⟨rfl, rfl, rfl⟩ := eq
    exact PS.w ps_retN (post _ r H .refl q .non)
  | .iff c a b, X, w, st, hc => by
    simp only [chkS] at hc
    split at hc
    · rename_i ec sa sb hx
      obtain ⟨p, rfl⟩ := asIfS_eq hx
      simp only [Bool.and_eq_true] at hc
      obtain ⟨⟨h1, h2⟩, h3⟩ := hc
      have tc := seT c w.wd h1
      have ta := ssSs a w h2
      have tb := ssSs b w h3
      intro s σ r H h fl s' h' D re q eq post
      simp only [execC, Option.bind_eq_some_iff] at eq
      obtain ⟨⟨k, h1⟩, e1, e2⟩ := eq
      refine PS.w (ps_if ptW pssW pssW) ?_
      refine tc s σ r H h k h1 _ re q e1 fun r1 H1 st1 q1 => ?_
      split at e2
      · rw [if_pos (by assumption)]
        exact ta s σ r1 H1 h1 _ _ _ _ (re.step q st1) q1 e2 (post.step st1)
      · rw [if_neg (by assumption)]
        exact tb s σ r1 H1 h1 _ _ _ _ (re.step q st1) q1 e2 (post.step st1)
    · cases hc
  | .fo t it b, X, w, st, hc => by
    simp only [chkS] at hc
    split at hc
    · rename_i tg ei sb hx
      obtain ⟨p, rfl⟩ := asFor_eq hx
      simp only [Bool.and_eq_true] at hc
      obtain ⟨⟨h1, h2⟩, h3⟩ := hc
      have sg := sgT w h1
      have si := seI it w.wd h2
      have tb := ssSs b w h3
      intro s σ r H h fl s' h' D re q eq post
      simp only [execC, Option.bind_eq_some_iff] at eq
      obtain ⟨⟨src, h1⟩, e1, e2⟩ := eq
      refine PS.w (ps_for w.po w.wd.calm piW pgW pssW (fold_of (chkI_set h2))) ?_
      refine si tg s σ r H h src h1 _ re q e1 fun J r1 H1 st1 q1 rj => ?_
      exact for_loop sg tb rj q1 (re.step q st1) e2 (post.step st1)
    · cases hc
  | .foD t d b, X, w, st, hc => by
    simp only [chkS] at hc
    split at hc
    · rename_i tg ei sb hx
      obtain ⟨p, rfl⟩ := asFor_eq hx
      simp only [Bool.and_eq_true] at hc
      obtain ⟨⟨h1, h2⟩, h3⟩ := hc
      split at h1
      · rename_i y hy
        obtain ⟨py, rfl⟩ := asName_eq hy
        exact ss_foD w h1 (sgT w h2) (ssSs b w h3)
      · cases h1
    · cases hc
  | .wh c b, X, w, st, hc => by
    simp only [chkS] at hc
    split at hc
    · rename_i ec sb hx
      obtain ⟨p, rfl⟩ := asWh_eq hx
      simp only [Bool.and_eq_true] at hc
      have tc := seT c w.wd hc.1
      have tb := ssSs b w hc.2
      intro s σ r H h fl s' h' D re q eq post
      simp only [execC] at eq
      exact PS.w (ps_while w.po ptW pssW) (wh_loop tc tb q re eq post)
    · cases hc
  | .pas, X, w, st, hc => by
    simp only [chkS] at hc
    intro s σ r H h fl s' h' D re q eq post
    simp only [execC, Option.some.injEq, Prod.mk.injEq] at eq
    obtain ⟨rfl, rfl, rfl⟩ := eq
    exact PS.w (isPass_ok hc) (post σ r H .refl re q)
  | .bad, X, w, st, hc => fun s σ r H h fl s' h' D re q eq post => by simp [execC] at eq
theorem ssSs : ∀ (cs : CSs) {X : Cx} (w : SW g F X) {sts : List Stmt}, chkSs g X.env.scope cs sts = true → SSs F W X cs sts
  | .nil, X, w, sts, hc => by
    simp only [chkSs, List.isEmpty_iff] at hc
    subst hc
    intro s σ r H h fl s' h' D re q eq post
    simp only [execCs, Option.some.injEq, Prod.mk.injEq] at eq
    obtain ⟨rfl, rfl, rfl⟩ := eq
    exact PSs.w pss_nil (post σ r H .refl re q)
  | .cons c cs, X, w, [], hc => by simp [chkSs] at hc
  | .cons c cs, X, w, st :: sts, hc => by
    simp only [chkSs, Bool.and_eq_true] at hc
    have s1 := ssS c w hc.1
    have s2 := ssSs cs w hc.2
    intro s σ r H h fl s' h' D re q eq post
    simp only [execCs] at eq
    refine PSs.w (pss_cons psW pssW) ?_
    split at eq
    · rename_i s3 h3 e3
      refine s1 s σ r H h .nx s3 h3 _ re q e3 fun σ1 r1 H1 st1 re1 q1 => ?_
      exact s2 s3 σ1 r1 H1 h3 fl s' h' D re1 q1 eq (post.step st1)
    · rename_i hne
      refine s1 s σ r H h fl s' h' _ re q eq ?_
      cases fl with
      | nx => exact absurd eq (hne s' h')
      | rt v => exact post
end
end
end TH

set_option maxHeartbeats 8000000
/-! A def. -/
namespace TH
open PySem PySem.Spec PyProof.Rows L2
theorem spC_len {P : Program} {w : World} {K : PySem.W.Frag} {n : Nat} {m : List CV → CH → Out} : ∀ vs H Q E, spC P w K n m vs H Q E → vs.length = n := fun _ _ _ _ h => h.1
/-- what stands in the module, for the defs that may be called -/
structure Md (P : Program) (w : World) (K : PySem.W.Frag) (mg : Str → Option Value) (base : Heap) (fn : List (Nat × String × Nat)) (gv : List (String × CV)) (F : Fns) (k : Nat) : Prop where
  bl : ∀ x ∈ blNames, mg x = none
  gl : ∀ p ∈ gv, ∃ u v, mg (Str.ofString p.1) = some u ∧ RelV v u ∧ ∀ r H, RV K r H p.2 v
  fn : ∀ (i : Nat) (p : String × Nat), fn.lookup i = some p → ∃ f fd ps, mg (Str.ofString p.1) = some (.ref f) ∧ PySem.W.keepIn K (.ref f) = true ∧ Binds K fd ps [] ∧ FnOk P w K mg base CX0 k f fd ps (spC P w K p.2 (F i))
section
variable {P : Program} {w : World} {K : PySem.W.Frag} {mg : Str → Option Value} {base : Heap} {fn : List (Nat × String × Nat)} {gv : List (String × CV)} {F : Fns} {k : Nat}
theorem re_start {X : Cx} {r : Ren} {H : Hp} {xs : List CV} {vs : List V} (us : RVs X.K r H xs vs) {N : List Str} : RE X r H (xs.map some ++ List.replicate (N.length - xs.length) none) (L2.start N vs) := by
  have hl := us.length
  refine ⟨by simp [L2.start, hl], fun i x e => ?_⟩
  by_cases hi : i < xs.length
  · rw [List.getElem?_append_left (by simpa using hi), List.getElem?_map, Option.map_eq_some_iff] at e
    obtain ⟨y, e1, e2⟩ := e
    cases e2
    obtain ⟨v, g, rv⟩ := us.get e1
    refine ⟨v, ?_, rv⟩
    unfold L2.start
    rw [List.getElem?_append_left (by simp; omega), List.getElem?_map, g]
    rfl
  · rw [List.getElem?_append_right (by simpa using hi)] at e
    rw [List.getElem?_replicate] at e
    split at e <;> cases e
theorem def_ok (M : Md P w K mg base fn gv F k) {x qual : Str} {st : Stmt} {f : Addr} {fd : FuncData} {N ps : List Str} (Fu : Fun K x qual st f fd) (S : FnScope N ps (defScope st)) {b : CSs} (W : Nat) (hc : chkSs ⟨N, fn, gv⟩ (defScope st) b (defBody st) = true) :
    FnOk P w K mg base CX0 (k + 1) f fd ps (spC P w K ps.length (runC F W N.length b)) := by
  refine Fu.ok S spC_len fun cdv A outer s H vs Q E hr sp => ?_
  refine ⟨_, pssW, ?_⟩
  obtain ⟨hl, r, h, xs, c, h', q, us, e, post⟩ := sp
  have hu : (cxOf CX0 P w K mg base N qual (defScope st) f cdv A outer s H E).nox.A.units + 70 < cLine := by
    have := hr.un
    show (A.deeper (envOfC qual (defScope st) s.heap.objs.size f cdv)).units + 70 < cLine
    omega
  have w' : SW ⟨N, fn, gv⟩ F (cxOf CX0 P w K mg base N qual (defScope st) f cdv A outer s H E).nox := by
    refine ⟨⟨rfl, S.nd, rfl, hu, M.bl, M.gl, fun i p hp => ?_⟩, fun _ => rfl, S.kind, PassesOwn.never⟩
    obtain ⟨f, fd, ps, h1, h2, h3, h4⟩ := M.fn i p hp
    exact ⟨k, f, fd, ps, h1, h2, hr, h3, h4⟩
  unfold runC at e
  split at e
  · rename_i s2 h2 e2
    cases e
    exact ssSs b w' hc _ _ r H h .nx s2 h' _ (re_start us) q e2 fun σ' r' H' st' re' q' => post _ r' H' st' q' .non
  · rename_i v s2 h2 e2
    cases e
    exact ssSs b w' hc _ _ r H h (.rt c) s2 h' _ (re_start us) q e2 post
  · cases e
def fup (F : Fns) (i : Nat) (m : List CV → CH → Out) : Fns := fun j => if j = i then m else F j
theorem Md.add (M : Md P w K mg base fn gv F k) {i : Nat} {nm : String} {n : Nat} {m : List CV → CH → Out} {f : Addr} {fd : FuncData} {ps : List Str} (h1 : mg (Str.ofString nm) = some (.ref f)) (h2 : PySem.W.keepIn K (.ref f) = true) (h3 : Binds K fd ps [])
    (h4 : FnOk P w K mg base CX0 (k + 1) f fd ps (spC P w K n m)) : Md P w K mg base ((i, nm, n) :: fn) gv (fup F i m) (k + 1) := by
  refine ⟨M.bl, M.gl, fun j p hp => ?_⟩
  rw [List.lookup_cons] at hp
  split at hp
  · rename_i hj
    rw [beq_iff_eq] at hj
    cases hp
    subst hj
    refine ⟨f, fd, ps, h1, h2, h3, ?_⟩
    unfold fup
    rw [if_pos rfl]
    exact h4
  · rename_i hj
    rw [beq_eq_false_iff_ne] at hj
    obtain ⟨f', fd', ps', a, b, c, d⟩ := M.fn j p hp
    refine ⟨f', fd', ps', a, b, c, ?_⟩
    unfold fup
    rw [if_neg hj]
    exact d.mono (by omega)
/-- a def, put in -/
theorem Md.def (M : Md P w K mg base fn gv F k) (i : Nat) (nm : String) {x qual : Str} {st : Stmt} {f : Addr} {fd : FuncData} {N ps : List Str} (Fu : Fun K x qual st f fd) (S : FnScope N ps (defScope st)) (b : CSs) (W : Nat) (hc : chkSs ⟨N, fn, gv⟩ (defScope st) b (defBody st) = true)
    (h1 : mg (Str.ofString nm) = some (.ref f)) (h3 : Binds K fd ps []) : Md P w K mg base ((i, nm, ps.length) :: fn) gv (fup F i (runC F W N.length b)) (k + 1) := M.add h1 Fu.kp h3 (def_ok M Fu S W hc)
end
/-- the law's own promise -/
def spLaw (n : Nat) (K : PySem.W.Frag) : Sp := fun vs H Q _ => ∃ (a : Addr) (ns : List Int), vs = [.ref a] ∧ Lk K H a (ns.map V.int) ∧ ns.length ≤ n ∧ ∀ H', Q (.bl true) H'
theorem lk_of {K : PySem.W.Frag} {H : Hp} {a : Addr} {xs : List V} (hO : Only H) (h : SqL K H a xs) : Lk K H a xs := by
  rcases h with (h | ⟨o, h⟩) | h
  · rcases hO a with z | ⟨o, ys, z⟩
    · rw [z] at h; cases h
    · rw [z] at h; cases h
  · exact .inl ⟨o, h⟩
  · exact .inr h
theorem law_imp {P : Program} {w : World} {K : PySem.W.Frag} {mg : Str → Option Value} {base : Heap} {k n : Nat} {f : Addr} {fd : FuncData} {ps : List Str} {m : List CV → CH → Out} (h : FnOk P w K mg base CX0 k f fd ps (spC P w K 1 m))
    (ht : ∀ ns : List Int, ns.length ≤ n → ∃ h', m [.lst (ns.map CV.int)] [] = some (.bl true, h')) : FnOk P w K mg base CX0 k f fd ps (spLaw n K) := by
  refine h.imp fun vs H Q E ⟨a, ns, e, hl, hn, q⟩ => ?_
  subst e
  obtain ⟨h', e⟩ := ht ns hn
  refine ⟨rfl, [], [], [.lst (ns.map CV.int)], .bl true, h', ⟨rfl, List.nodup_nil, fun n o a e _ => by simp at e⟩, .cons (.lst hl) .nil, e, fun v r' H' _ _ rv => ?_⟩
  cases rv
  exact q H'
def F0 : Fns := fun _ _ _ => none
theorem md0 {P : Program} {w : World} {K : PySem.W.Frag} {mg : Str → Option Value} {base : Heap} {gv : List (String × CV)} (bl : ∀ x ∈ blNames, mg x = none) (gl : ∀ p ∈ gv, ∃ u v, mg (Str.ofString p.1) = some u ∧ RelV v u ∧ ∀ r H, RV K r H p.2 v) :
    Md P w K mg base [] gv F0 0 := ⟨bl, gl, fun _ _ e => by simp at e⟩
theorem gl_int {K : PySem.W.Frag} {mg : Str → Option Value} {x : String} {i : Int} {t : Tok} (h : mg (Str.ofString x) = some (.int i t)) : ∃ u v, mg (Str.ofString x) = some u ∧ RelV v u ∧ ∀ r H, RV K r H (.int i) v := ⟨_, .int i, h, ⟨t, rfl⟩, fun _ _ => .int i⟩
theorem gl_str {K : PySem.W.Frag} {mg : Str → Option Value} {x : String} {s : List Nat} {t : Tok} (h : mg (Str.ofString x) = some (.str (toS s) t)) : ∃ u v, mg (Str.ofString x) = some u ∧ RelV v u ∧ ∀ r H, RV K r H (.str s) v := ⟨_, .str (toS s), h, ⟨t, rfl⟩, fun _ _ => .str s⟩
end TH

/-! The law's promise, with the script's bits. -/
namespace TH
open PySem PySem.Spec PyProof.Rows L2
theorem bits_nat {z : Int} {n : Nat} (h : Builtin.Int.intBits z ≤ n) : z.natAbs < 2 ^ n := by
  unfold Builtin.Int.intBits at h
  split at h
  · rename_i e
    rw [beq_iff_eq] at e
    subst e
    exact Nat.pow_pos (by omega)
  · exact Nat.lt_of_lt_of_le Nat.lt_log2_self (Nat.pow_le_pow_right (by omega) h)
def spLawB (n : Nat) (K : PySem.W.Frag) : Sp := fun vs H Q _ => ∃ (a : Addr) (ns : List Int), vs = [.ref a] ∧ Lk K H a (ns.map V.int) ∧ ns.length ≤ n ∧ (∀ z ∈ ns, z.natAbs < 2 ^ 1048576) ∧ ∀ H', Q (.bl true) H'
theorem law_impB {P : Program} {w : World} {K : PySem.W.Frag} {mg : Str → Option Value} {base : Heap} {k n : Nat} {f : Addr} {fd : FuncData} {ps : List Str} {m : List CV → CH → Out} (h : FnOk P w K mg base CX0 k f fd ps (spC P w K 1 m))
    (ht : ∀ ns : List Int, ns.length ≤ n → (∀ z ∈ ns, z.natAbs < 2 ^ 1048576) → ∃ h', m [.lst (ns.map CV.int)] [] = some (.bl true, h')) : FnOk P w K mg base CX0 k f fd ps (spLawB n K) := by
  refine h.imp fun vs H Q E ⟨a, ns, e, hl, hn, hb, q⟩ => ?_
  subst e
  obtain ⟨h', e⟩ := ht ns hn hb
  refine ⟨rfl, [], [], [.lst (ns.map CV.int)], .bl true, h', ⟨rfl, List.nodup_nil, fun n o a e _ => by simp at e⟩, .cons (.lst hl) .nil, e, fun v r' H' _ _ rv => ?_⟩
  cases rv
  exact q H'
end TH

set_option maxHeartbeats 8000000
/-! Defs that call themselves, or one another: as deep as told. -/
namespace TH
open PySem PySem.Spec PyProof.Rows L2
/-- what is known of one of a group -/
structure Gd where
  i : Nat
  nm : String
  x : String
  qual : String
  st : Stmt
  f : Addr
  fd : FuncData
  N : List Str
  ps : List Str
  b : CSs
def Gd.fn (g : Gd) : Nat × String × Nat := (g.i, g.nm, g.ps.length)
def Gd.bd (g : Gd) : Nat × Nat × CSs := (g.i, g.N.length, g.b)
section
variable {P : Program} {w : World} {K : PySem.W.Frag} {mg : Str → Option Value} {base : Heap} {fn : List (Nat × String × Nat)} {gv : List (String × CV)} {F : Fns} {k : Nat}
structure GdOk (K : PySem.W.Frag) (mg : Str → Option Value) (fn : List (Nat × String × Nat)) (gv : List (String × CV)) (g : Gd) : Prop where
  fu : Fun K g.x g.qual g.st g.f g.fd
  sc : FnScope g.N g.ps (defScope g.st)
  ck : chkSs ⟨g.N, fn, gv⟩ (defScope g.st) g.b (defBody g.st) = true
  at' : mg (Str.ofString g.nm) = some (.ref g.f)
  bi : Binds K g.fd g.ps []
theorem lookup_gd (j : Nat) : ∀ gs : List Gd, (∃ g ∈ gs, ((gs.map Gd.bd).lookup j = some (g.N.length, g.b)) ∧ ∀ fn, (gs.map Gd.fn ++ fn).lookup j = some (g.nm, g.ps.length)) ∨ ((gs.map Gd.bd).lookup j = none ∧ ∀ fn, (gs.map Gd.fn ++ fn).lookup j = fn.lookup j)
  | [] => .inr ⟨rfl, fun _ => rfl⟩
  | g :: gs => by
    by_cases h : j = g.i
    · subst h
      refine .inl ⟨g, List.mem_cons_self, ?_, fun fn => ?_⟩
      · rw [List.map_cons, Gd.bd, List.lookup_cons, beq_self_eq_true]
      · rw [List.map_cons, List.cons_append, Gd.fn, List.lookup_cons, beq_self_eq_true]
    · have hb : (j == g.i) = false := by simp [h]
      rcases lookup_gd j gs with ⟨g', m, a, b⟩ | ⟨a, b⟩
      · refine .inl ⟨g', List.mem_cons_of_mem _ m, ?_, fun fn => ?_⟩
        · rw [List.map_cons, Gd.bd, List.lookup_cons, hb]; exact a
        · rw [List.map_cons, List.cons_append, Gd.fn, List.lookup_cons, hb]; exact b fn
      · refine .inr ⟨?_, fun fn => ?_⟩
        · rw [List.map_cons, Gd.bd, List.lookup_cons, hb]; exact a
        · rw [List.map_cons, List.cons_append, Gd.fn, List.lookup_cons, hb]; exact b fn
theorem Md.recs (M : Md P w K mg base fn gv F k) (W : Nat) (gs : List Gd) (ok : ∀ g ∈ gs, GdOk K mg (gs.map Gd.fn ++ fn) gv g) : ∀ d, Md P w K mg base (gs.map Gd.fn ++ fn) gv (recF F W (gs.map Gd.bd) d) (k + d + 1)
  | 0 => ⟨M.bl, M.gl, fun j p hp => by
    rcases lookup_gd j gs with ⟨g, m, a, b⟩ | ⟨a, b⟩
    · rw [b] at hp
      cases hp
      have o := ok g m
      refine ⟨g.f, g.fd, g.ps, o.at', o.fu.kp, o.bi, ?_⟩
      have e : recF F W (gs.map Gd.bd) 0 j = fun _ _ => none := by simp only [recF, a]
      rw [e]
      refine o.fu.ok o.sc spC_len fun cdv A outer s H vs Q E hr sp => ?_
      obtain ⟨_, _, _, _, _, _, _, _, e, _⟩ := sp
      cases e
    · rw [b] at hp
      obtain ⟨f', fd', ps', x1, x2, x3, x4⟩ := M.fn j p hp
      have e : recF F W (gs.map Gd.bd) 0 j = F j := by simp only [recF, a]
      rw [e]
      exact ⟨f', fd', ps', x1, x2, x3, x4.mono (by omega)⟩⟩
  | d + 1 => by
    have ih := Md.recs M W gs ok d
    refine ⟨M.bl, M.gl, fun j p hp => ?_⟩
    rcases lookup_gd j gs with ⟨g, m, a, b⟩ | ⟨a, b⟩
    · rw [b] at hp
      cases hp
      have o := ok g m
      refine ⟨g.f, g.fd, g.ps, o.at', o.fu.kp, o.bi, ?_⟩
      have e : recF F W (gs.map Gd.bd) (d + 1) j = runC (recF F W (gs.map Gd.bd) d) W g.N.length g.b := by simp only [recF, a]
      rw [e]
      exact def_ok ih o.fu o.sc W o.ck
    · rw [b] at hp
      obtain ⟨f', fd', ps', x1, x2, x3, x4⟩ := M.fn j p hp
      have e : recF F W (gs.map Gd.bd) (d + 1) j = F j := by simp only [recF, a]
      rw [e]
      exact ⟨f', fd', ps', x1, x2, x3, x4.mono (by omega)⟩
end
end TH

/-! Plain facts about the clean evaluator. -/
namespace TH
/-! ### loops -/
theorem loop_inv {S : Type} {src : Src} {body : CV → S → CH → Option (S × CH)} (n : Nat) (I : Nat → S → CH → Prop) (step : ∀ i a h, i < n → I i a h → ∃ x a' h', src.item h i = some (some x) ∧ body x a h = some (a', h') ∧ I (i + 1) a' h')
    (fin : ∀ a h, I n a h → src.item h n = some none) : ∀ (k i : Nat) (a : S) (h : CH), i + k = n → I i a h → ∃ a' h', loopGo src body k i a h = some (a', h') ∧ I n a' h'
  | 0, i, a, h, e, hi => by
    have e' : i = n := by omega
    subst e'
    exact ⟨a, h, by unfold loopGo; rw [fin a h hi], hi⟩
  | k + 1, i, a, h, e, hi => by
    obtain ⟨x, a', h', e1, e2, hi'⟩ := step i a h (by omega) hi
    obtain ⟨a2, h2, e3, hi2⟩ := loop_inv n I step fin k (i + 1) a' h' (by omega) hi'
    exact ⟨a2, h2, by unfold loopGo; rw [e1]; simp only [e2, Option.bind_some]; exact e3, hi2⟩
theorem for_inv {src : Src} {body : CV → Env → CH → Option (Fl × Env × CH)} (n : Nat) (I : Nat → Env → CH → Prop) (step : ∀ i s h, i < n → I i s h → ∃ x s' h', src.item h i = some (some x) ∧ body x s h = some (.nx, s', h') ∧ I (i + 1) s' h')
    (fin : ∀ s h, I n s h → src.item h n = some none) : ∀ (k i : Nat) (s : Env) (h : CH), i + k = n → I i s h → ∃ s' h', forGo src body k i s h = some (.nx, s', h') ∧ I n s' h'
  | 0, i, a, h, e, hi => by
    have e' : i = n := by omega
    subst e'
    exact ⟨a, h, by unfold forGo; rw [fin a h hi], hi⟩
  | k + 1, i, a, h, e, hi => by
    obtain ⟨x, a', h', e1, e2, hi'⟩ := step i a h (by omega) hi
    obtain ⟨a2, h2, e3, hi2⟩ := for_inv n I step fin k (i + 1) a' h' (by omega) hi'
    exact ⟨a2, h2, by unfold forGo; rw [e1]; simp only [e2]; exact e3, hi2⟩
/-- what is walked stays: the turns by the items -/
theorem loop_map {src : Src} {body : CV → List CV → CH → Option (List CV × CH)} {xs : List CV} {h : CH} {p : CV → Bool} {f : CV → CV} (hs : ∀ i, src.item h i = some xs[i]?) (hb : ∀ x ∈ xs, ∀ acc, body x acc h = some (if p x = true then acc ++ [f x] else acc, h)) :
    loopGo src body xs.length 0 [] h = some ((xs.filter p).map f, h) := by
  have key : ∀ (k i : Nat) (acc : List CV), i + k = xs.length → loopGo src body k i acc h = some (acc ++ ((xs.drop i).filter p).map f, h) := by
    intro k
    induction k with
    | zero =>
      intro i acc e
      unfold loopGo
      rw [hs, List.getElem?_eq_none (by omega), List.drop_eq_nil_of_le (by omega)]
      simp
    | succ k ih =>
      intro i acc e
      have hl : i < xs.length := by omega
      unfold loopGo
      rw [hs, List.getElem?_eq_getElem hl]
      simp only [hb _ (List.getElem_mem hl), Option.bind_some]
      rw [ih (i + 1) _ (by omega), List.drop_eq_getElem_cons hl]
      by_cases hp : p xs[i] = true
      · rw [if_pos hp, List.filter_cons_of_pos hp]; simp
      · rw [if_neg hp, List.filter_cons_of_neg hp]
  have := key xs.length 0 [] (by omega)
  simpa using this
/-! ### heaps -/
theorem get_app {h t : CH} {i : Nat} {o : CO} (e : h[i]? = some o) : (h ++ t)[i]? = some o := by
  rw [List.getElem?_append_left (List.getElem?_eq_some_iff.mp e).1]; exact e
theorem get_new {h : CH} {o : CO} : (h ++ [o])[h.length]? = some o := by simp
theorem lt_of {h : CH} {i : Nat} {o : CO} (e : h[i]? = some o) : i < h.length := (List.getElem?_eq_some_iff.mp e).1
/-- the cells stand as they stood, but those in S -/
structure Off (S : List Nat) (h h' : CH) : Prop where
  len : h.length ≤ h'.length
  at' : ∀ i, i < h.length → i ∉ S → h'[i]? = h[i]?
theorem Off.refl (S : List Nat) (h : CH) : Off S h h := ⟨Nat.le_refl _, fun _ _ _ => rfl⟩
theorem Off.trans {S : List Nat} {h h1 h2 : CH} (a : Off S h h1) (b : Off S h1 h2) : Off S h h2 := ⟨Nat.le_trans a.len b.len, fun i hi hs => (b.at' i (Nat.lt_of_lt_of_le hi a.len) hs).trans (a.at' i hi hs)⟩
theorem Off.app (S : List Nat) (h t : CH) : Off S h (h ++ t) := ⟨by simp, fun i hi _ => List.getElem?_append_left hi⟩
theorem Off.set {S : List Nat} {h : CH} {i : Nat} {o : CO} (hi : i ∈ S) : Off S h (h.set i o) := ⟨by simp, fun j _ hj => List.getElem?_set_ne (fun e => hj (by rw [← e]; exact hi))⟩
theorem Off.mono {S T : List Nat} {h h' : CH} (a : Off S h h') (st : ∀ x ∈ S, x ∈ T) : Off T h h' := ⟨a.len, fun i hi hn => a.at' i hi fun z => hn (st i z)⟩
theorem Off.get {S : List Nat} {h h' : CH} {i : Nat} {o : CO} (a : Off S h h') (e : h[i]? = some o) (hs : i ∉ S) : h'[i]? = some o := (a.at' i (lt_of e) hs).trans e
/-- a cell that came later may be written -/
theorem Off.drop {S : List Nat} {h h1 h2 : CH} {p : Nat} (a : Off S h h1) (b : Off (p :: S) h1 h2) (hp : h.length ≤ p) : Off S h h2 := ⟨Nat.le_trans a.len b.len, fun i hi hs => (b.at' i (Nat.lt_of_lt_of_le hi a.len) (fun z => by
  rcases List.mem_cons.mp z with z | z
  · omega
  · exact hs z)).trans (a.at' i hi hs)⟩
/-! ### values -/
theorem den_int (h : CH) (n : Nat) (i : Int) : den h n (.int i) = some (.int i) := by cases n <;> simp only [den]
theorem den_str (h : CH) (n : Nat) (s : List Nat) : den h n (.str s) = some (.str s) := by cases n <;> simp only [den]
theorem den_bl (h : CH) (n : Nat) (b : Bool) : den h n (.bl b) = some (.bl b) := by cases n <;> simp only [den]
theorem den_non (h : CH) (n : Nat) : den h n .non = some .non := by cases n <;> simp only [den]
theorem dens_nil (h : CH) (n : Nat) : dens h n [] = some [] := by cases n <;> simp only [dens]
theorem dens_cons (h : CH) (n : Nat) (x : CV) (xs : List CV) : dens h n (x :: xs) = (den h n x).bind fun y => (dens h n xs).bind fun ys => some (y :: ys) := by cases n <;> simp only [dens]
theorem eqV_int (h : CH) (i j : Int) : eqV h (.int i) (.int j) = some (i == j) := by unfold eqV; simp [den_int, ceq]
theorem eqV_str (h : CH) (s t : List Nat) : eqV h (.str s) (.str t) = some (s == t) := by unfold eqV; simp [den_str, ceq]
theorem eqV_bl (h : CH) (s t : Bool) : eqV h (.bl s) (.bl t) = some (s == t) := by unfold eqV; simp [den_bl, ceq]
/-- a value without lists -/
inductive Flat : CV → Prop
  | non : Flat .non
  | bl (b : Bool) : Flat (.bl b)
  | int (i : Int) : Flat (.int i)
  | str (s : List Nat) : Flat (.str s)
theorem den_flat {h : CH} {n : Nat} {x : CV} (f : Flat x) : den h n x = some x := by
  cases f
  · exact den_non ..
  · exact den_bl ..
  · exact den_int ..
  · exact den_str ..
theorem dens_flat {h : CH} {n : Nat} : ∀ {xs : List CV}, (∀ x ∈ xs, Flat x) → dens h n xs = some xs
  | [], _ => dens_nil ..
  | x :: xs, f => by rw [dens_cons, den_flat (f x List.mem_cons_self), dens_flat fun y hy => f y (List.mem_cons_of_mem _ hy)]; rfl
end TH

/-! The evaluator as a machine of small steps, for simp: a rest of the work is a function that stands without its arguments. -/
namespace TH
def bindE {β : Type} (a : Out) (k : CV → CH → Option β) : Option β := a.bind fun p => k p.1 p.2
def bindL {β : Type} (a : Option (List CV × CH)) (k : List CV → CH → Option β) : Option β := a.bind fun p => k p.1 p.2
def bindO {β : Type} (a : Option (Option Int × CH)) (k : Option Int → CH → Option β) : Option β := a.bind fun p => k p.1 p.2
def bindI {β : Type} (a : Option (Src × CH)) (k : Src → CH → Option β) : Option β := a.bind fun p => k p.1 p.2
def bindB {β : Type} (a : Option (Bool × CH)) (k : Bool → CH → Option β) : Option β := a.bind fun p => k p.1 p.2
theorem bindE_some {β : Type} {v : CV} {h : CH} {k : CV → CH → Option β} : bindE (some (v, h)) k = k v h := (rfl)
theorem bindL_some {β : Type} {v : List CV} {h : CH} {k : List CV → CH → Option β} : bindL (some (v, h)) k = k v h := (rfl)
theorem bindO_some {β : Type} {v : Option Int} {h : CH} {k : Option Int → CH → Option β} : bindO (some (v, h)) k = k v h := (rfl)
theorem bindI_some {β : Type} {v : Src} {h : CH} {k : Src → CH → Option β} : bindI (some (v, h)) k = k v h := (rfl)
theorem bindB_some {β : Type} {v : Bool} {h : CH} {k : Bool → CH → Option β} : bindB (some (v, h)) k = k v h := (rfl)
def liftB (b : Option Bool) (h : CH) : Out := b.map fun r => (.bl r, h)
theorem liftB_some {b : Bool} {h : CH} : liftB (some b) h = some (.bl b, h) := (rfl)
def retV (v : Option CV) (h : CH) : Out := v.map fun v => (v, h)
theorem retV_some {v : CV} {h : CH} : retV (some v) h = some (v, h) := (rfl)
def asB : CV → CH → Option (Bool × CH) := fun v h => match v with
  | .bl b => some (b, h)
  | _ => none
theorem asB_bl {b : Bool} {h : CH} : asB (.bl b) h = some (b, h) := (rfl)
section
variable {F : Fns} {W : Nat} {s : Env} {h : CH}
def bin1 (F : Fns) (b : CE) (s : Env) (o : BOp) : CV → CH → Out := fun x h => bindE (evalC F b s h) (binV o x)
theorem bin1_eq {b : CE} {o : BOp} {x : CV} : bin1 F b s o x h = bindE (evalC F b s h) (binV o x) := (rfl)
theorem e_bin {o : BOp} {a b : CE} : evalC F (.bin o a b) s h = bindE (evalC F a s h) (bin1 F b s o) := by simp only [evalC]; rfl
def cmpK (o : COp) (x : CV) : CV → CH → Out := fun y h => liftB (cmpV o x y h) h
theorem cmpK_eq {o : COp} {x y : CV} : cmpK o x y h = liftB (cmpV o x y h) h := (rfl)
def cmp1 (F : Fns) (b : CE) (s : Env) (o : COp) : CV → CH → Out := fun x h => bindE (evalC F b s h) (cmpK o x)
theorem cmp1_eq {b : CE} {o : COp} {x : CV} : cmp1 F b s o x h = bindE (evalC F b s h) (cmpK o x) := (rfl)
theorem e_cmp {o : COp} {a b : CE} : evalC F (.cmp o a b) s h = bindE (evalC F a s h) (cmp1 F b s o) := by simp only [evalC]; rfl
def cmpR (F : Fns) (c : CE) (s : Env) (o2 : COp) (y : CV) : Bool → CH → Out := fun r h => if r = true then bindE (evalC F c s h) (cmpK o2 y) else some (.bl false, h)
theorem cmpR_t {c : CE} {o2 : COp} {y : CV} : cmpR F c s o2 y true h = bindE (evalC F c s h) (cmpK o2 y) := (rfl)
theorem cmpR_f {c : CE} {o2 : COp} {y : CV} : cmpR F c s o2 y false h = some (.bl false, h) := (rfl)
def cmp2b (F : Fns) (c : CE) (s : Env) (o o2 : COp) (x : CV) : CV → CH → Out := fun y h => bindE (cmpK o x y h) fun r h => bindB (asB r h) (cmpR F c s o2 y)
def cmp2a (F : Fns) (b c : CE) (s : Env) (o o2 : COp) : CV → CH → Out := fun x h => bindE (evalC F b s h) (cmp2b F c s o o2 x)
theorem cmp2a_eq {b c : CE} {o o2 : COp} {x : CV} : cmp2a F b c s o o2 x h = bindE (evalC F b s h) (cmp2b F c s o o2 x) := (rfl)
theorem cmp2b_eq {c : CE} {o o2 : COp} {x y : CV} {r : Bool} (e : cmpV o x y h = some r) : cmp2b F c s o o2 x y h = cmpR F c s o2 y r h := by unfold cmp2b cmpK; rw [e]; rfl
theorem e_cmp2 {o o2 : COp} {a b c : CE} : evalC F (.cmp2 o o2 a b c) s h = bindE (evalC F a s h) (cmp2a F b c s o o2) := by
  simp only [evalC]
  unfold bindE cmp2a
  congr 1
  funext p
  unfold bindE cmp2b
  congr 1
  funext q
  unfold cmpK liftB
  cases cmpV o p.1 q.1 q.2 <;> rfl
def cmpR3 (F : Fns) (c d : CE) (s : Env) (o2 o3 : COp) (y : CV) : Bool → CH → Out := fun r h => if r = true then bindE (evalC F c s h) (cmp2b F d s o2 o3 y) else some (.bl false, h)
theorem cmpR3_t {c d : CE} {o2 o3 : COp} {y : CV} : cmpR3 F c d s o2 o3 y true h = bindE (evalC F c s h) (cmp2b F d s o2 o3 y) := (rfl)
theorem cmpR3_f {c d : CE} {o2 o3 : COp} {y : CV} : cmpR3 F c d s o2 o3 y false h = some (.bl false, h) := (rfl)
def cmp3b (F : Fns) (c d : CE) (s : Env) (o o2 o3 : COp) (x : CV) : CV → CH → Out := fun y h => bindE (cmpK o x y h) fun r h => bindB (asB r h) (cmpR3 F c d s o2 o3 y)
def cmp3a (F : Fns) (b c d : CE) (s : Env) (o o2 o3 : COp) : CV → CH → Out := fun x h => bindE (evalC F b s h) (cmp3b F c d s o o2 o3 x)
theorem cmp3a_eq {b c d : CE} {o o2 o3 : COp} {x : CV} : cmp3a F b c d s o o2 o3 x h = bindE (evalC F b s h) (cmp3b F c d s o o2 o3 x) := (rfl)
theorem cmp3b_eq {c d : CE} {o o2 o3 : COp} {x y : CV} {r : Bool} (e : cmpV o x y h = some r) : cmp3b F c d s o o2 o3 x y h = cmpR3 F c d s o2 o3 y r h := by unfold cmp3b cmpK; rw [e]; rfl
theorem e_cmp3 {o o2 o3 : COp} {a b c d : CE} : evalC F (.cmp3 o o2 o3 a b c d) s h = bindE (evalC F a s h) (cmp3a F b c d s o o2 o3) := by
  simp only [evalC]
  unfold bindE cmp3a
  congr 1
  funext p
  unfold bindE cmp3b
  congr 1
  funext q
  unfold cmpK liftB
  cases cmpV o p.1 q.1 q.2 with
  | none => rfl
  | some r =>
    cases r with
    | false => rfl
    | true =>
      show (evalC F c s q.2).bind _ = (evalC F c s q.2).bind _
      congr 1
      funext u
      unfold cmp2b cmpK liftB
      cases cmpV o2 q.1 u.1 u.2 <;> rfl
def andK (F : Fns) (b : CE) (s : Env) : Bool → CH → Out := fun k h => if k = true then (testC F b s h).map fun q => (.bl q.1, q.2) else some (.bl false, h)
def orK (F : Fns) (b : CE) (s : Env) : Bool → CH → Out := fun k h => if k = true then some (.bl true, h) else (testC F b s h).map fun q => (.bl q.1, q.2)
def bOut : Bool → CH → Out := fun k h => some (.bl k, h)
theorem bOut_eq {k : Bool} : bOut k h = some (.bl k, h) := (rfl)
theorem andK_t {b : CE} : andK F b s true h = bindB (testC F b s h) bOut := by unfold andK bindB bOut; rw [if_pos rfl]; cases testC F b s h <;> rfl
theorem andK_f {b : CE} : andK F b s false h = some (.bl false, h) := (rfl)
theorem orK_f {b : CE} : orK F b s false h = bindB (testC F b s h) bOut := by unfold orK bindB bOut; rw [if_neg Bool.false_ne_true]; cases testC F b s h <;> rfl
theorem orK_t {b : CE} : orK F b s true h = some (.bl true, h) := (rfl)
theorem e_and {a b : CE} : evalC F (.and a b) s h = bindB (testC F a s h) (andK F b s) := by simp only [evalC]; rfl
theorem e_or {a b : CE} : evalC F (.or a b) s h = bindB (testC F a s h) (orK F b s) := by simp only [evalC]; rfl
def notK : Bool → CH → Out := fun k h => some (.bl (!k), h)
theorem notK_eq {k : Bool} : notK k h = some (.bl (!k), h) := (rfl)
theorem e_not {a : CE} : evalC F (.not a) s h = bindB (testC F a s h) notK := by simp only [evalC]; unfold bindB notK; cases testC F a s h <;> rfl
def negK : CV → CH → Out := fun x h => match x with
  | .int i => some (.int (-i), h)
  | _ => none
theorem negK_int {i : Int} : negK (.int i) h = some (.int (-i), h) := (rfl)
theorem e_neg {a : CE} : evalC F (.neg a) s h = bindE (evalC F a s h) negK := by simp only [evalC]; unfold bindE negK; cases evalC F a s h with | none => rfl | some p => obtain ⟨x, h⟩ := p; cases x <;> rfl
def iteK (F : Fns) (a b : CE) (s : Env) : Bool → CH → Out := fun k h => if k = true then evalC F a s h else evalC F b s h
theorem iteK_t {a b : CE} : iteK F a b s true h = evalC F a s h := (rfl)
theorem iteK_f {a b : CE} : iteK F a b s false h = evalC F b s h := (rfl)
theorem e_ite {c a b : CE} : evalC F (.ite c a b) s h = bindB (testC F c s h) (iteK F a b s) := by simp only [evalC]; rfl
def tupK2 : List CV → CH → Out := fun xs h => some (.tup xs, h)
theorem tupK2_eq {xs : List CV} : tupK2 xs h = some (.tup xs, h) := (rfl)
theorem e_tup {es : CEs} : evalC F (.tup es) s h = bindL (evalCs F es s h) tupK2 := by simp only [evalC]; unfold bindL tupK2; cases evalCs F es s h <;> rfl
def lstK : List CV → CH → Out := fun xs h => some (.ref h.length, h ++ [.lst xs])
theorem lstK_eq {xs : List CV} : lstK xs h = some (.ref h.length, h ++ [.lst xs]) := (rfl)
theorem e_lst {es : CEs} : evalC F (.lst es) s h = bindL (evalCs F es s h) lstK := by simp only [evalC]; rfl
theorem e_dct0 : evalC F .dct0 s h = some (.ref h.length, h ++ [.dct []]) := by simp only [evalC]; rfl
def ixK (x : CV) : CV → CH → Out := fun i h => retV (ixV x i h) h
theorem ixK_eq {x i : CV} : ixK x i h = retV (ixV x i h) h := (rfl)
def ix1 (F : Fns) (i : CE) (s : Env) : CV → CH → Out := fun x h => bindE (evalC F i s h) (ixK x)
theorem ix1_eq {i : CE} {x : CV} : ix1 F i s x h = bindE (evalC F i s h) (ixK x) := (rfl)
theorem e_ix {a i : CE} : evalC F (.ix a i) s h = bindE (evalC F a s h) (ix1 F i s) := by simp only [evalC]; rfl
def sl2 (F : Fns) (hi : CO1) (s : Env) (x : CV) : Option Int → CH → Out := fun lo h => bindO (evalO F hi s h) (slV x lo)
theorem sl2_eq {hi : CO1} {x : CV} {lo : Option Int} : sl2 F hi s x lo h = bindO (evalO F hi s h) (slV x lo) := (rfl)
def sl1 (F : Fns) (lo hi : CO1) (s : Env) : CV → CH → Out := fun x h => bindO (evalO F lo s h) (sl2 F hi s x)
theorem sl1_eq {lo hi : CO1} {x : CV} : sl1 F lo hi s x h = bindO (evalO F lo s h) (sl2 F hi s x) := (rfl)
theorem e_sl {a : CE} {lo hi : CO1} : evalC F (.sl a lo hi) s h = bindE (evalC F a s h) (sl1 F lo hi s) := by simp only [evalC]; rfl
theorem e_rev {a : CE} : evalC F (.rev a) s h = bindE (evalC F a s h) revV := by simp only [evalC]; rfl
theorem o_no : evalO F .no s h = some (none, h) := by simp only [evalO]
def oK : CV → CH → Option (Option Int × CH) := fun x h => match x with
  | .int i => some (some i, h)
  | _ => none
theorem oK_int {i : Int} : oK (.int i) h = some (some i, h) := (rfl)
theorem o_ex {e : CE} : evalO F (.ex e) s h = bindE (evalC F e s h) oK := by simp only [evalO]; unfold bindE oK; cases evalC F e s h with | none => rfl | some p => obtain ⟨x, h⟩ := p; cases x <;> rfl
theorem e_call {f : Nat} {es : CEs} : evalC F (.call f es) s h = bindL (evalCs F es s h) (F f) := by simp only [evalC]; rfl
theorem e_bi {f : Bi} {es : CEs} : evalC F (.bi f es) s h = bindL (evalCs F es s h) (biV f) := by simp only [evalC]; rfl
def me1 (F : Fns) (m : Me) (es : CEs) (s : Env) : CV → CH → Out := fun x h => if recvOk m x h = true then bindL (evalCs F es s h) (meV m x) else none
theorem me1_eq {m : Me} {es : CEs} {x : CV} (e : recvOk m x h = true) : me1 F m es s x h = bindL (evalCs F es s h) (meV m x) := by unfold me1; rw [if_pos e]
theorem e_me {m : Me} {o : CE} {es : CEs} : evalC F (.me m o es) s h = bindE (evalC F o s h) (me1 F m es s) := by simp only [evalC]; rfl
theorem s_nil : evalCs F .nil s h = some ([], h) := by simp only [evalCs]
def consB (x : CV) : List CV → CH → Option (List CV × CH) := fun xs h => some (x :: xs, h)
theorem consB_eq {x : CV} {xs : List CV} : consB x xs h = some (x :: xs, h) := (rfl)
def consA (F : Fns) (es : CEs) (s : Env) : CV → CH → Option (List CV × CH) := fun x h => bindL (evalCs F es s h) (consB x)
theorem consA_eq {es : CEs} {x : CV} : consA F es s x h = bindL (evalCs F es s h) (consB x) := (rfl)
theorem s_cons {e : CE} {es : CEs} : evalCs F (.cons e es) s h = bindE (evalC F e s h) (consA F es s) := by
  simp only [evalCs]
  unfold bindE consA
  congr 1
  funext p
  unfold bindL consB
  cases evalCs F es s p.2 <;> rfl
theorem e_lit {v : CV} : evalC F (.lit v) s h = some (v, h) := by simp only [evalC]
theorem e_glob {x : String} {v : CV} : evalC F (.glob x v) s h = some (v, h) := by simp only [evalC]
theorem e_var0 {v : CV} : evalC F (.var 0) (some v :: s) h = some (v, h) := by simp only [evalC, List.getElem?_cons_zero]
theorem e_varS {n : Nat} {x : Option CV} : evalC F (.var (n + 1)) (x :: s) h = evalC F (.var n) s h := by simp only [evalC, List.getElem?_cons_succ]
def compK (F : Fns) (elt cond : CE) (i : Nat) (s : Env) : Src → CH → Out := fun src h => if src.len h ≤ lim then
  (loopGo src (fun x acc h => (testC F cond (s.set i (some x)) h).bind fun b => if b.1 = true then (evalC F elt (s.set i (some x)) b.2).map fun y => (acc ++ [y.1], y.2) else some (acc, b.2)) (src.len h) 0 ([] : List CV) h).bind fun q => newc q.2 (.lst q.1) else none
theorem e_comp {elt cond : CE} {i : Nat} {it : CI} : evalC F (.comp elt i it cond) s h = bindI (evalI F it s h) (compK F elt cond i s) := by simp only [evalC]; rfl
def r1K : CV → CH → Option (Src × CH) := fun x h => match x with
  | .int j => if small62 j then some (.ints 0 j.toNat, h) else none
  | _ => none
theorem r1K_int {j : Int} (e : small62 j = true) : r1K (.int j) h = some (.ints 0 j.toNat, h) := by unfold r1K; simp only [e]; rfl
theorem i_range1 {a : CE} : evalI F (.range1 a) s h = bindE (evalC F a s h) r1K := by simp only [evalI]; unfold bindE r1K; cases evalC F a s h with | none => rfl | some p => obtain ⟨x, h⟩ := p; cases x <;> rfl
def r2K (x : CV) : CV → CH → Option (Src × CH) := fun y h => match x, y with
  | .int i, .int j => if small62 i && small62 j then some (.ints i (j - i).toNat, h) else none
  | _, _ => none
def r2a (F : Fns) (b : CE) (s : Env) : CV → CH → Option (Src × CH) := fun x h => bindE (evalC F b s h) (r2K x)
theorem r2a_eq {b : CE} {x : CV} : r2a F b s x h = bindE (evalC F b s h) (r2K x) := (rfl)
theorem i_range2 {a b : CE} : evalI F (.range2 a b) s h = bindE (evalC F a s h) (r2a F b s) := by
  simp only [evalI]
  unfold bindE r2a
  congr 1
def vK : CV → CH → Option (Src × CH) := fun x h => srcOf h x
theorem vK_tup {xs : List CV} : vK (.tup xs) h = some (.tup xs, h) := (rfl)
theorem vK_str {xs : List Nat} : vK (.str xs) h = some (.str xs, h) := (rfl)
theorem vK_lst {r : Nat} {xs : List CV} (e : h[r]? = some (.lst xs)) : vK (.ref r) h = some (.cell r, h) := by unfold vK srcOf; simp only [e]
theorem i_val {a : CE} : evalI F (.val a) s h = bindE (evalC F a s h) vK := by simp only [evalI]; rfl
/-! tests -/
theorem t_lit {b : Bool} : testC F (.lit (.bl b)) s h = some (b, h) := by simp only [testC]
theorem t_cmp {o : COp} {a b : CE} : testC F (.cmp o a b) s h = bindE (evalC F (.cmp o a b) s h) asB := by
  simp only [testC, evalC]
  unfold bindE
  cases evalC F a s h with
  | none => rfl
  | some p =>
    simp only [Option.bind_some]
    cases evalC F b s p.2 with
    | none => rfl
    | some q => simp only [Option.bind_some]; cases cmpV o p.1 q.1 q.2 <;> rfl
theorem t_cmp2 {o o2 : COp} {a b c : CE} : testC F (.cmp2 o o2 a b c) s h = bindE (evalC F (.cmp2 o o2 a b c) s h) asB := by
  simp only [testC, evalC]
  unfold bindE
  cases evalC F a s h with
  | none => rfl
  | some p =>
    simp only [Option.bind_some]
    cases evalC F b s p.2 with
    | none => rfl
    | some q =>
      simp only [Option.bind_some]
      cases cmpV o p.1 q.1 q.2 with
      | none => rfl
      | some r =>
        cases r with
        | false => rfl
        | true =>
          simp only [Option.bind_some, if_true]
          cases evalC F c s q.2 with
          | none => rfl
          | some u => simp only [Option.bind_some]; cases cmpV o2 q.1 u.1 u.2 <;> rfl
theorem t_cmp3 {o o2 o3 : COp} {a b c d : CE} : testC F (.cmp3 o o2 o3 a b c d) s h = bindE (evalC F (.cmp3 o o2 o3 a b c d) s h) asB := by
  simp only [testC, evalC]
  unfold bindE
  cases evalC F a s h with
  | none => rfl
  | some p =>
    simp only [Option.bind_some]
    cases evalC F b s p.2 with
    | none => rfl
    | some q =>
      simp only [Option.bind_some]
      cases cmpV o p.1 q.1 q.2 with
      | none => rfl
      | some r =>
        cases r with
        | false => rfl
        | true =>
          simp only [Option.bind_some, if_true]
          cases evalC F c s q.2 with
          | none => rfl
          | some u =>
            simp only [Option.bind_some]
            cases cmpV o2 q.1 u.1 u.2 with
            | none => rfl
            | some r =>
              cases r with
              | false => rfl
              | true =>
                simp only [Option.bind_some, if_true]
                cases evalC F d s u.2 with
                | none => rfl
                | some u2 => simp only [Option.bind_some]; cases cmpV o3 u.1 u2.1 u2.2 <;> rfl
theorem t_call {f : Nat} {es : CEs} : testC F (.call f es) s h = bindE (bindL (evalCs F es s h) (F f)) asB := by
  simp only [testC]
  unfold bindL bindE asB
  cases evalCs F es s h with
  | none => rfl
  | some p => simp only [Option.bind_some] <;> (cases F f p.1 p.2 with | none => rfl | some q => obtain ⟨x, h⟩ := q; cases x <;> rfl)
theorem t_bi {f : Bi} {es : CEs} : testC F (.bi f es) s h = bindE (bindL (evalCs F es s h) (biV f)) asB := by
  simp only [testC]
  unfold bindL bindE asB
  cases evalCs F es s h with
  | none => rfl
  | some p => simp only [Option.bind_some] <;> (cases biV f p.1 p.2 with | none => rfl | some q => obtain ⟨x, h⟩ := q; cases x <;> rfl)
theorem t_var {i : Nat} : testC F (.var i) s h = bindE (evalC F (.var i) s h) asB := by
  simp only [testC, evalC]
  unfold bindE asB
  cases s[i]? with
  | none => rfl
  | some o =>
    cases o with
    | none => rfl
    | some v => cases v <;> rfl
def andT (F : Fns) (b : CE) (s : Env) : Bool → CH → Option (Bool × CH) := fun k h => if k = true then testC F b s h else some (false, h)
def orT (F : Fns) (b : CE) (s : Env) : Bool → CH → Option (Bool × CH) := fun k h => if k = true then some (true, h) else testC F b s h
def notT : Bool → CH → Option (Bool × CH) := fun k h => some (!k, h)
theorem andT_t {b : CE} : andT F b s true h = testC F b s h := (rfl)
theorem andT_f {b : CE} : andT F b s false h = some (false, h) := (rfl)
theorem orT_f {b : CE} : orT F b s false h = testC F b s h := (rfl)
theorem orT_t {b : CE} : orT F b s true h = some (true, h) := (rfl)
theorem notT_eq {k : Bool} : notT k h = some (!k, h) := (rfl)
theorem t_and {a b : CE} : testC F (.and a b) s h = bindB (testC F a s h) (andT F b s) := by simp only [testC]; rfl
theorem t_or {a b : CE} : testC F (.or a b) s h = bindB (testC F a s h) (orT F b s) := by simp only [testC]; rfl
theorem t_not {a : CE} : testC F (.not a) s h = bindB (testC F a s h) notT := by simp only [testC]; unfold bindB notT; cases testC F a s h <;> rfl
/-! statements -/
abbrev SOut := Option (Fl × Env × CH)
def seqC (a : SOut) (k : Env → CH → SOut) : SOut := match a with
  | some (.nx, s, h) => k s h
  | r => r
theorem seqC_nx {k : Env → CH → SOut} : seqC (some (.nx, s, h)) k = k s h := (rfl)
theorem seqC_rt {v : CV} {k : Env → CH → SOut} : seqC (some (.rt v, s, h)) k = some (.rt v, s, h) := (rfl)
theorem x_nil : execCs F W .nil s h = some (.nx, s, h) := by simp only [execCs]
theorem x_cons {a : CS} {b : CSs} : execCs F W (.cons a b) s h = seqC (execC F W a s h) (execCs F W b) := by simp only [execCs]; rfl
def retS (a : Option (Env × CH)) : SOut := a.map fun q => (.nx, q.1, q.2)
theorem retS_some : retS (some (s, h)) = some (.nx, s, h) := (rfl)
def asgK (F : Fns) (t : CT) (s : Env) : CV → CH → SOut := fun x h => retS (asgC F t x s h)
theorem asgK_nm {i : Nat} {x : CV} : asgK F (.nm i) s x h = some (.nx, s.set i (some x), h) := (rfl)
def retH (s : Env) (o : Option CH) : Option (Env × CH) := o.map fun h => (s, h)
theorem retH_some : retH s (some h) = some (s, h) := (rfl)
def sub2 (x o : CV) (s : Env) : CV → CH → Option (Env × CH) := fun i h => retH s (setV o i x h)
theorem sub2_eq {x o i : CV} : sub2 x o s i h = retH s (setV o i x h) := (rfl)
def sub1 (F : Fns) (i : CE) (x : CV) (s : Env) : CV → CH → Option (Env × CH) := fun o h => bindE (evalC F i s h) (sub2 x o s)
theorem sub1_eq {i : CE} {x o : CV} : sub1 F i x s o h = bindE (evalC F i s h) (sub2 x o s) := (rfl)
theorem a_sub {o i : CE} {x : CV} : asgC F (.sub o i) x s h = bindE (evalC F o s h) (sub1 F i x s) := by
  simp only [asgC]
  unfold bindE sub1
  congr 1
theorem asgK_sub {o i : CE} {x : CV} : asgK F (.sub o i) s x h = retS (bindE (evalC F o s h) (sub1 F i x s)) := by unfold asgK; rw [a_sub]
theorem x_asg {t : CT} {e : CE} : execC F W (.asg t e) s h = bindE (evalC F e s h) (asgK F t s) := by simp only [execC]; rfl
def exK (s : Env) : CV → CH → SOut := fun _ h => some (.nx, s, h)
theorem exK_eq {v : CV} : exK s v h = some (.nx, s, h) := (rfl)
theorem x_expr {e : CE} : execC F W (.expr e) s h = bindE (evalC F e s h) (exK s) := by simp only [execC]; unfold bindE exK; cases evalC F e s h <;> rfl
def retK (s : Env) : CV → CH → SOut := fun v h => some (.rt v, s, h)
theorem retK_eq {v : CV} : retK s v h = some (.rt v, s, h) := (rfl)
theorem x_ret {e : CE} : execC F W (.ret e) s h = bindE (evalC F e s h) (retK s) := by simp only [execC]; unfold bindE retK; cases evalC F e s h <;> rfl
theorem x_retn : execC F W .retn s h = some (.rt .non, s, h) := by simp only [execC]
def iffK (F : Fns) (W : Nat) (a b : CSs) (s : Env) : Bool → CH → SOut := fun k h => if k = true then execCs F W a s h else execCs F W b s h
theorem iffK_t {a b : CSs} : iffK F W a b s true h = execCs F W a s h := (rfl)
theorem iffK_f {a b : CSs} : iffK F W a b s false h = execCs F W b s h := (rfl)
theorem x_iff {c : CE} {a b : CSs} : execC F W (.iff c a b) s h = bindB (testC F c s h) (iffK F W a b s) := by simp only [execC]; rfl
def foB (F : Fns) (W : Nat) (t : CT) (b : CSs) : CV → Env → CH → SOut := fun x s h => (asgC F t x s h).bind fun q => execCs F W b q.1 q.2
def foK (F : Fns) (W : Nat) (t : CT) (b : CSs) (s : Env) : Src → CH → SOut := fun src h => forGo src (foB F W t b) (src.len h) 0 s h
theorem x_fo {t : CT} {it : CI} {b : CSs} : execC F W (.fo t it b) s h = bindI (evalI F it s h) (foK F W t b s) := by simp only [execC]; rfl
theorem foB_nm {i : Nat} {b : CSs} {x : CV} : foB F W (.nm i) b x s h = execCs F W b (s.set i (some x)) h := by unfold foB; simp only [asgC, Option.bind_some]
theorem x_wh {c : CE} {b : CSs} : execC F W (.wh c b) s h = whGo (testC F c) (execCs F W b) W s h := by simp only [execC]
theorem x_pas : execC F W .pas s h = some (.nx, s, h) := by simp only [execC]
def par1 (F : Fns) (i j : Nat) (b : CE) (s : Env) : CV → CH → SOut := fun x h => bindE (evalC F b s h) fun y h => some (.nx, (s.set i (some x)).set j (some y), h)
theorem x_par {i j : Nat} {a b : CE} : execC F W (.par i j a b) s h = bindE (evalC F a s h) (par1 F i j b s) := by
  simp only [execC]
  unfold bindE par1
  congr 1
  funext p
  unfold bindE
  cases evalC F b s p.2 <;> rfl
def runK : SOut → Out
  | some (.nx, _, h) => some (.non, h)
  | some (.rt v, _, h) => some (v, h)
  | none => none
theorem runK_nx : runK (some (.nx, s, h)) = some (.non, h) := (rfl)
theorem runK_rt {v : CV} : runK (some (.rt v, s, h)) = some (v, h) := (rfl)
theorem run_eq {n : Nat} {b : CSs} {args : List CV} : runC F W n b args h = runK (execCs F W b (args.map some ++ List.replicate (n - args.length) none) h) := by unfold runC; cases execCs F W b (args.map some ++ List.replicate (n - args.length) none) h with | none => rfl | some p => obtain ⟨a, b, c⟩ := p; cases a <;> rfl
end
/-! ### operators by shape -/
section
variable {h : CH}
theorem v_add {i j : Int} : binV .add (.int i) (.int j) h = some (.int (i + j), h) := (rfl)
theorem v_sub {i j : Int} : binV .sub (.int i) (.int j) h = some (.int (i - j), h) := (rfl)
theorem v_mul {i j : Int} (e : (b64 i || b64 j) = true) : binV .mul (.int i) (.int j) h = some (.int (i * j), h) := by simp only [binV, e, Bool.true_or, if_true]
theorem v_mod {i j : Int} (e : 0 < j) : binV .mod (.int i) (.int j) h = some (.int (i % j), h) := by simp only [binV, e, if_true]
theorem v_addS {a b : List Nat} (e : a.length + b.length ≤ lim) : binV .add (.str a) (.str b) h = some (.str (a ++ b), h) := by simp only [binV, e, if_true]
theorem v_addT {a b : List CV} (e : a.length + b.length ≤ lim) : binV .add (.tup a) (.tup b) h = some (.tup (a ++ b), h) := by simp only [binV, e, if_true]
theorem v_pow {i j : Int} (e : 0 ≤ j ∧ j ≤ 1000000 ∧ i.natAbs < 2 ^ 64) : binV .pow (.int i) (.int j) h = some (.int (i ^ j.toNat), h) := by simp only [binV, e, and_self, if_true]
theorem c_lt {i j : Int} : cmpV .lt (.int i) (.int j) h = some (decide (i < j)) := (rfl)
theorem c_le {i j : Int} : cmpV .le (.int i) (.int j) h = some (decide (i ≤ j)) := (rfl)
theorem c_gt {i j : Int} : cmpV .gt (.int i) (.int j) h = some (decide (j < i)) := (rfl)
theorem c_ge {i j : Int} : cmpV .ge (.int i) (.int j) h = some (decide (j ≤ i)) := (rfl)
theorem c_eq {a b : CV} {k : Bool} (e : eqV h a b = some k) : cmpV .eq a b h = some k := by simp only [cmpV, e]
theorem c_ne {a b : CV} {k : Bool} (e : eqV h a b = some k) : cmpV .ne a b h = some (!k) := by simp only [cmpV, e]; rfl
theorem c_eqI {i j : Int} : cmpV .eq (.int i) (.int j) h = some (decide (i = j)) := by rw [c_eq (eqV_int h i j)]; congr 1
theorem c_neI {i j : Int} : cmpV .ne (.int i) (.int j) h = some (!decide (i = j)) := by rw [c_ne (eqV_int h i j)]; congr 1
theorem c_eqS {s t : List Nat} : cmpV .eq (.str s) (.str t) h = some (decide (s = t)) := by rw [c_eq (eqV_str h s t), Bool.beq_eq_decide_eq]
theorem c_neS {s t : List Nat} : cmpV .ne (.str s) (.str t) h = some (!decide (s = t)) := by rw [c_ne (eqV_str h s t), Bool.beq_eq_decide_eq]
theorem c_in {a b : CV} {k : Bool} (e : inV h a b = some k) : cmpV .isin a b h = some k := by simp only [cmpV, e]
theorem c_notin {a b : CV} {k : Bool} (e : inV h a b = some k) : cmpV .notin a b h = some (!k) := by simp only [cmpV, e]; rfl
theorem c_isN {a : CV} : cmpV .is a .non h = some (decide (a = .non)) := by cases a <;> rfl
theorem c_isnotN {a : CV} : cmpV .isnot a .non h = some (decide (a ≠ .non)) := by cases a <;> rfl
theorem c_isB {a b : Bool} : cmpV .is (.bl a) (.bl b) h = some (a == b) := (rfl)
theorem c_isnotB {a b : Bool} : cmpV .isnot (.bl a) (.bl b) h = some (a != b) := (rfl)
theorem rdl_of {r : Nat} {xs : List CV} (e : h[r]? = some (.lst xs)) : rdl h r = some xs := by unfold rdl; simp only [e]
theorem x_lst {r : Nat} {xs : List CV} {i : Int} (e : h[r]? = some (.lst xs)) : ixV (.ref r) (.int i) h = atI xs i := by simp only [ixV, e]
theorem x_tup {xs : List CV} {i : Int} : ixV (.tup xs) (.int i) h = atI xs i := by simp only [ixV]
theorem x_lstV {xs : List CV} {i : Int} : ixV (.lst xs) (.int i) h = atI xs i := by simp only [ixV]
theorem x_str {s : List Nat} {i : Int} {c : Nat} (hl : s.length ≤ lim) (e : atI s i = some c) : ixV (.str s) (.int i) h = some (.str [c]) := by simp only [ixV, hl, e, if_true]; rfl
theorem set_lst {r : Nat} {xs : List CV} {i : Int} {v : CV} {j : Nat} (e : h[r]? = some (.lst xs)) (e2 : ixN xs.length i = some j) : setV (.ref r) (.int i) v h = some (h.set r (.lst (xs.set j v))) := by simp only [setV, e, e2]; rfl
theorem sl_lstV {xs : List CV} {lo hi : Option Int} : slV (.lst xs) lo hi h = some (.ref h.length, h ++ [.lst (cut xs lo hi)]) := (rfl)
theorem sl_tup {xs : List CV} {lo hi : Option Int} : slV (.tup xs) lo hi h = some (.tup (cut xs lo hi), h) := (rfl)
theorem sl_str {s : List Nat} {lo hi : Option Int} (hl : s.length ≤ lim) : slV (.str s) lo hi h = some (.str (cut s lo hi), h) := by simp only [slV, hl, if_true]
theorem b_lenS {s : List Nat} (hl : s.length ≤ lim) : biV .len [.str s] h = some (.int s.length, h) := by simp only [biV, hl, if_true]
theorem b_lenT {xs : List CV} : biV .len [.tup xs] h = some (.int xs.length, h) := (rfl)
theorem b_lenV {xs : List CV} : biV .len [.lst xs] h = some (.int xs.length, h) := (rfl)
theorem b_lenL {r : Nat} {xs : List CV} (e : h[r]? = some (.lst xs)) : biV .len [.ref r] h = some (.int xs.length, h) := by simp only [biV, e]
theorem bools_map : ∀ bs : List Bool, bools? (bs.map CV.bl) = some bs
  | [] => rfl
  | b :: bs => by simp only [List.map_cons, bools?, bools_map bs, Option.map_some]
theorem b_all {r : Nat} {bs : List Bool} (e : h[r]? = some (.lst (bs.map CV.bl))) : biV .all [.ref r] h = some (.bl (bs.all id), h) := by simp only [biV, rdl_of e, Option.bind_some, bools_map, Option.map_some]
theorem m_append {r : Nat} {xs : List CV} {v : CV} (e : h[r]? = some (.lst xs)) (hl : xs.length < lim) : meV .append (.ref r) [v] h = some (.non, h.set r (.lst (xs ++ [v]))) := by simp only [meV, e, hl, if_true]
theorem r_append {r : Nat} {xs : List CV} (e : h[r]? = some (.lst xs)) : recvOk .append (.ref r) h = true := by simp only [recvOk, e]
end
end TH

/-! Comprehensions, loops; lists of texts. -/
namespace TH
section
variable {F : Fns} {W : Nat} {s : Env} {h : CH}
theorem compK_of {elt cond : CE} {i : Nat} {src : Src} {acc : List CV} {h' : CH} (hl : src.len h ≤ lim)
    (e : loopGo src (fun x acc h => (testC F cond (s.set i (some x)) h).bind fun b => if b.1 = true then (evalC F elt (s.set i (some x)) b.2).map fun y => (acc ++ [y.1], y.2) else some (acc, b.2)) (src.len h) 0 ([] : List CV) h = some (acc, h')) :
    compK F elt cond i s src h = some (.ref h'.length, h' ++ [.lst acc]) := by
  unfold compK
  rw [if_pos hl, e]
  rfl
theorem comp_map {elt cond : CE} {i : Nat} {src : Src} {xs : List CV} (p : CV → Bool) (f : CV → CV) (hs : ∀ i, src.item h i = some xs[i]?) (hl : src.len h = xs.length) (hm : xs.length ≤ lim)
    (ht : ∀ x ∈ xs, testC F cond (s.set i (some x)) h = some (p x, h)) (he : ∀ x ∈ xs, p x = true → evalC F elt (s.set i (some x)) h = some (f x, h)) :
    compK F elt cond i s src h = some (.ref h.length, h ++ [.lst ((xs.filter p).map f)]) := by
  refine compK_of (by rw [hl]; exact hm) ?_
  rw [hl]
  refine loop_map hs fun x hx acc => ?_
  rw [ht x hx]
  simp only [Option.bind_some]
  by_cases hp : p x = true
  · rw [if_pos hp, if_pos hp, he x hx hp]; rfl
  · rw [if_neg hp, if_neg hp]
theorem comp_all {elt : CE} {i : Nat} {src : Src} {xs : List CV} (f : CV → CV) (hs : ∀ i, src.item h i = some xs[i]?) (hl : src.len h = xs.length) (hm : xs.length ≤ lim)
    (he : ∀ x ∈ xs, evalC F elt (s.set i (some x)) h = some (f x, h)) : compK F elt (.lit (.bl true)) i s src h = some (.ref h.length, h ++ [.lst (xs.map f)]) := by
  rw [comp_map (fun _ => true) f hs hl hm (fun _ _ => t_lit) (fun x hx _ => he x hx), List.filter_eq_self.mpr (fun _ _ => rfl)]
theorem comp_inv {elt cond : CE} {i : Nat} {src : Src} (I : Nat → List CV → CH → Prop) (hn : src.len h ≤ lim) (h0 : I 0 [] h)
    (step : ∀ j acc h', j < src.len h → I j acc h' → ∃ x b h1, src.item h' j = some (some x) ∧ testC F cond (s.set i (some x)) h' = some (b, h1) ∧
      ((b = true ∧ ∃ y h2, evalC F elt (s.set i (some x)) h1 = some (y, h2) ∧ I (j + 1) (acc ++ [y]) h2) ∨ (b = false ∧ I (j + 1) acc h1)))
    (fin : ∀ acc h', I (src.len h) acc h' → src.item h' (src.len h) = some none) : ∃ acc h', compK F elt cond i s src h = some (.ref h'.length, h' ++ [.lst acc]) ∧ I (src.len h) acc h' := by
  obtain ⟨acc, h', e, hi⟩ := loop_inv (body := fun x acc h => (testC F cond (s.set i (some x)) h).bind fun b => if b.1 = true then (evalC F elt (s.set i (some x)) b.2).map fun y => (acc ++ [y.1], y.2) else some (acc, b.2)) (src.len h) I (fun j a h2 hj hi => by
    obtain ⟨x, b, h3, e1, e2, r⟩ := step j a h2 hj hi
    rcases r with ⟨rfl, y, h4, e3, hi'⟩ | ⟨rfl, hi'⟩
    · refine ⟨x, _, h4, e1, ?_, hi'⟩
      simp only [e2, Option.bind_some, if_true, e3, Option.map_some]
    · refine ⟨x, _, h3, e1, ?_, hi'⟩
      simp only [e2, Option.bind_some, Bool.false_eq_true, if_false]) fin (src.len h) 0 [] h (by omega) h0
  exact ⟨acc, h', compK_of hn e, hi⟩
/-- every item, with the heap growing -/
theorem comp_each {elt : CE} {i : Nat} {src : Src} (I : Nat → List CV → CH → Prop) (hn : src.len h ≤ lim) (h0 : I 0 [] h)
    (step : ∀ j acc h', j < src.len h → I j acc h' → ∃ x y h2, src.item h' j = some (some x) ∧ evalC F elt (s.set i (some x)) h' = some (y, h2) ∧ I (j + 1) (acc ++ [y]) h2)
    (fin : ∀ acc h', I (src.len h) acc h' → src.item h' (src.len h) = some none) : ∃ acc h', compK F elt (.lit (.bl true)) i s src h = some (.ref h'.length, h' ++ [.lst acc]) ∧ I (src.len h) acc h' :=
  comp_inv I hn h0 (fun j acc h' hj hi => by
    obtain ⟨x, y, h2, e1, e2, hi'⟩ := step j acc h' hj hi
    exact ⟨x, true, h', e1, t_lit, .inl ⟨rfl, y, h2, e2, hi'⟩⟩) fin
theorem foK_inv {t : CT} {b : CSs} {src : Src} (I : Nat → Env → CH → Prop) (h0 : I 0 s h)
    (step : ∀ j s' h', j < src.len h → I j s' h' → ∃ x s2 h2, src.item h' j = some (some x) ∧ foB F W t b x s' h' = some (.nx, s2, h2) ∧ I (j + 1) s2 h2)
    (fin : ∀ s' h', I (src.len h) s' h' → src.item h' (src.len h) = some none) : ∃ s' h', foK F W t b s src h = some (.nx, s', h') ∧ I (src.len h) s' h' :=
  for_inv (src.len h) I step fin (src.len h) 0 s h (by omega) h0
/-! what is walked -/
theorem src_ints {lo : Int} {n i : Nat} : (Src.ints lo n).item h i = some (if i < n then some (.int (lo + i)) else none) := (rfl)
theorem src_intsL {lo : Int} {n : Nat} : (Src.ints lo n).len h = n := (rfl)
theorem src_tup {xs : List CV} {i : Nat} : (Src.tup xs).item h i = some xs[i]? := (rfl)
theorem src_tupL {xs : List CV} : (Src.tup xs).len h = xs.length := (rfl)
theorem src_cell {r : Nat} {xs : List CV} (e : h[r]? = some (.lst xs)) {i : Nat} : (Src.cell r).item h i = some xs[i]? := by simp only [Src.item, rdl_of e]; rfl
theorem src_cellL {r : Nat} {xs : List CV} (e : h[r]? = some (.lst xs)) : (Src.cell r).len h = xs.length := by simp only [Src.len, rdl_of e]; rfl
theorem src_str {t : List Nat} {i : Nat} : (Src.str t).item h i = some (t.map fun c => CV.str [c])[i]? := by simp only [Src.item, List.getElem?_map]
theorem src_strL {t : List Nat} : (Src.str t).len h = (t.map fun c => CV.str [c]).length := by simp only [Src.len, List.length_map]
/-! lists of texts -/
theorem flat_strs (ks : List (List Nat)) : ∀ x ∈ ks.map CV.str, Flat x := fun x hx => by
  obtain ⟨k, _, rfl⟩ := List.mem_map.mp hx
  exact .str k
theorem ceq_str (a b : List Nat) : ceq (.str a) (.str b) = decide (a = b) := by simp only [ceq, Bool.beq_eq_decide_eq]
theorem any_strs (k : List Nat) : ∀ ks : List (List Nat), ((ks.map CV.str).any fun z => ceq z (.str k)) = decide (k ∈ ks)
  | [] => rfl
  | l :: ks => by
    rw [List.map_cons, List.any_cons, any_strs k ks, ceq_str]
    by_cases h1 : l = k
    · subst h1; simp
    · have h2 : ¬ k = l := fun e => h1 e.symm
      simp [h1, h2]
theorem in_strsL {a : Nat} {ks : List (List Nat)} {k : List Nat} (e1 : h[a]? = some (.lst (ks.map .str))) : inV h (.str k) (.ref a) = some (decide (k ∈ ks)) := by
  simp only [inV, e1, den_str, dens_flat (flat_strs ks), Option.bind_some, any_strs]
theorem in_strsT {ks : List (List Nat)} {k : List Nat} : inV h (.str k) (.tup (ks.map .str)) = some (decide (k ∈ ks)) := by
  simp only [inV, den_str, dens_flat (flat_strs ks), Option.bind_some, any_strs]
theorem in_sign {c : Nat} {t : List Nat} : inV h (.str [c]) (.str t) = some (decide (c ∈ t)) := (rfl)
theorem r_join {t : List Nat} : recvOk .join (.str t) h = true := (rfl)
/-! cuts -/
theorem cut_to {α : Type} (xs : List α) (n : Nat) : cut xs none (some (n : Int)) = xs.take n := by
  unfold cut sIx
  simp only [Int.natCast_nonneg, if_true, List.drop_zero, Nat.sub_zero, Int.toNat_natCast]
  by_cases h : n ≤ xs.length
  · rw [Nat.min_eq_left h]
  · rw [Nat.min_eq_right (by omega), List.take_of_length_le (Nat.le_refl _), List.take_of_length_le (by omega)]
theorem cut_from {α : Type} (xs : List α) (n : Nat) : cut xs (some (n : Int)) none = xs.drop n := by
  unfold cut sIx
  simp only [Int.natCast_nonneg, if_true, Int.toNat_natCast]
  by_cases h : n ≤ xs.length
  · rw [Nat.min_eq_left h, List.take_of_length_le (by simp)]
  · rw [Nat.min_eq_right (by omega), List.drop_eq_nil_of_le (Nat.le_refl _), List.drop_eq_nil_of_le (by omega)]; simp
theorem cut_fromto {α : Type} (xs : List α) (m n : Nat) : cut xs (some (m : Int)) (some (n : Int)) = (xs.take n).drop m := by
  unfold cut sIx
  simp only [Int.natCast_nonneg, if_true, Int.toNat_natCast]
  rw [List.drop_take]
  by_cases h : m ≤ xs.length
  · rw [Nat.min_eq_left h]
    by_cases h2 : n ≤ xs.length
    · rw [Nat.min_eq_left h2]
    · rw [Nat.min_eq_right (by omega), List.take_of_length_le (by simp), List.take_of_length_le (by simp; omega)]
  · rw [Nat.min_eq_right (show xs.length ≤ m by omega), List.drop_eq_nil_of_le (Nat.le_refl xs.length), List.drop_eq_nil_of_le (show xs.length ≤ m by omega)]; simp
theorem atI_nat {α : Type} (xs : List α) (n : Nat) : atI xs (n : Int) = xs[n]? := by
  unfold atI ixN
  simp only [Int.natCast_nonneg, if_true, Int.toNat_natCast]
  by_cases h : n < xs.length
  · rw [if_pos (by omega)]; rfl
  · rw [if_neg (by omega), List.getElem?_eq_none (by omega)]; rfl
theorem atI_int {α : Type} (xs : List α) {i : Int} (h0 : 0 ≤ i) : atI xs i = xs[i.toNat]? := by
  have := atI_nat xs i.toNat
  rwa [Int.toNat_of_nonneg h0] at this
theorem at0 {α : Type} {x : α} {xs : List α} : atI (x :: xs) 0 = some x := by rw [atI_int _ (by decide)]; rfl
theorem at1 {α : Type} {x y : α} {xs : List α} : atI (x :: y :: xs) 1 = some y := by rw [atI_int _ (by decide)]; rfl
theorem at2 {α : Type} {x y z : α} {xs : List α} : atI (x :: y :: z :: xs) 2 = some z := by rw [atI_int _ (by decide)]; rfl
theorem at3 {α : Type} {x y z u : α} {xs : List α} : atI (x :: y :: z :: u :: xs) 3 = some u := by rw [atI_int _ (by decide)]; rfl
end
end TH

/-! Cells by what stands at a place: for a heap whose end is written out. -/
namespace TH
section
variable {h l : CH} {n : Nat}
theorem get_at : (h ++ l)[h.length + n]? = l[n]? := by rw [List.getElem?_append_right (Nat.le_add_right _ _), Nat.add_sub_cancel_left]
theorem get_at0 : (h ++ l)[h.length]? = l[0]? := by rw [List.getElem?_append_right (Nat.le_refl _), Nat.sub_self]
theorem set_at {o : CO} : (h ++ l).set (h.length + n) o = h ++ l.set n o := by rw [List.set_append_right _ _ (Nat.le_add_right _ _), Nat.add_sub_cancel_left]
theorem set_at0 {o : CO} : (h ++ l).set h.length o = h ++ l.set 0 o := by rw [List.set_append_right _ _ (Nat.le_refl _), Nat.sub_self]
def addO (a b : Option CO) (h : CH) : Out := match a, b with
  | some (.lst xs), some (.lst ys) => if xs.length + ys.length ≤ lim then some (.ref h.length, h ++ [.lst (xs ++ ys)]) else none
  | _, _ => none
theorem v_addR {a b : Nat} : binV .add (.ref a) (.ref b) h = addO h[a]? h[b]? h := by simp only [binV]; rfl
theorem addO_ok {xs ys : List CV} (e : xs.length + ys.length ≤ lim) : addO (some (.lst xs)) (some (.lst ys)) h = some (.ref h.length, h ++ [.lst (xs ++ ys)]) := by simp only [addO, e, if_true]
def lenO (a : Option CO) (h : CH) : Out := match a with
  | some (.lst xs) => some (.int xs.length, h)
  | some (.frz xs) => some (.int xs.length, h)
  | some (.dct kvs) => some (.int kvs.length, h)
  | some (.set xs) => some (.int xs.length, h)
  | _ => none
theorem b_lenR {r : Nat} : biV .len [.ref r] h = lenO h[r]? h := by simp only [biV]; rfl
theorem lenO_lst {xs : List CV} : lenO (some (.lst xs)) h = some (.int xs.length, h) := (rfl)
def ixO (a : Option CO) (i : Int) : Option CV := match a with
  | some (.lst xs) => atI xs i
  | some (.frz xs) => atI xs i
  | some (.dct kvs) => if kok kvs (.int i) then dget kvs (.int i) else none
  | some (.lkd kvs) => if kok kvs (.int i) && !kvs.isEmpty then dget kvs (.int i) else none
  | _ => none
theorem x_ref {r : Nat} {i : Int} : ixV (.ref r) (.int i) h = ixO h[r]? i := by simp only [ixV]; rfl
theorem ixO_lst {xs : List CV} {i : Int} : ixO (some (.lst xs)) i = atI xs i := (rfl)
def slO (a : Option CO) (lo hi : Option Int) (h : CH) : Out := match a with
  | some (.lst xs) => some (.ref h.length, h ++ [.lst (cut xs lo hi)])
  | some (.frz xs) => some (.ref h.length, h ++ [.lst (cut xs lo hi)])
  | _ => none
theorem sl_ref {r : Nat} {lo hi : Option Int} : slV (.ref r) lo hi h = slO h[r]? lo hi h := by
  simp only [slV, rdl]
  unfold slO
  cases h[r]? with
  | none => rfl
  | some o => cases o <;> rfl
theorem slO_lst {xs : List CV} {lo hi : Option Int} : slO (some (.lst xs)) lo hi h = some (.ref h.length, h ++ [.lst (cut xs lo hi)]) := (rfl)
def setO (a : Option CO) (r : Nat) (i : Int) (v : CV) (h : CH) : Option CH := match a with
  | some (.lst xs) => (ixN xs.length i).map fun j => h.set r (.lst (xs.set j v))
  | some (.dct kvs) => if kok kvs (.int i) && decide (kvs.length < lim) then some (h.set r (.dct (dput kvs (.int i) v))) else none
  | _ => none
theorem set_ref {r : Nat} {i : Int} {v : CV} : setV (.ref r) (.int i) v h = setO h[r]? r i v h := by simp only [setV]; rfl
def appO (a : Option CO) (r : Nat) (v : CV) (h : CH) : Out := match a with
  | some (.lst xs) => if xs.length < lim then some (.non, h.set r (.lst (xs ++ [v]))) else none
  | _ => none
theorem m_appR {r : Nat} {v : CV} : meV .append (.ref r) [v] h = appO h[r]? r v h := by simp only [meV]; rfl
theorem appO_lst {xs : List CV} {r : Nat} {v : CV} (e : xs.length < lim) : appO (some (.lst xs)) r v h = some (.non, h.set r (.lst (xs ++ [v]))) := by simp only [appO, e, if_true]
def allO (a : Option CO) (h : CH) : Out := match a with
  | some (.lst xs) => (bools? xs).map fun bs => (.bl (bs.all id), h)
  | some (.frz xs) => (bools? xs).map fun bs => (.bl (bs.all id), h)
  | _ => none
theorem b_allR {r : Nat} : biV .all [.ref r] h = allO h[r]? h := by
  simp only [biV, rdl]
  unfold allO
  cases h[r]? with
  | none => rfl
  | some o => cases o <;> rfl
def anyO (a : Option CO) (h : CH) : Out := match a with
  | some (.lst xs) => (bools? xs).map fun bs => (.bl (bs.any id), h)
  | some (.frz xs) => (bools? xs).map fun bs => (.bl (bs.any id), h)
  | _ => none
theorem b_anyR {r : Nat} : biV .any [.ref r] h = anyO h[r]? h := by
  simp only [biV, rdl]
  unfold anyO
  cases h[r]? with
  | none => rfl
  | some o => cases o <;> rfl
theorem b_listT {xs : List CV} : biV .list [.tup xs] h = some (.ref h.length, h ++ [.lst xs]) := (rfl)
def vO (a : Option CO) (r : Nat) (h : CH) : Option (Src × CH) := match a with
  | some (.lst _) => some (.cell r, h)
  | some (.frz _) => some (.cell r, h)
  | _ => none
theorem vK_ref {r : Nat} : vK (.ref r) h = vO h[r]? r h := by unfold vK srcOf; rfl
theorem vO_lst {xs : List CV} {r : Nat} : vO (some (.lst xs)) r h = some (.cell r, h) := (rfl)
def recO (a : Option CO) : Bool := match a with
  | some (.lst _) => true
  | _ => false
def when {α : Type} (b : Bool) (a : Option α) : Option α := if b = true then a else none
theorem when_t {α : Type} {a : Option α} : when true a = a := (rfl)
theorem recO_lst {xs : List CV} : recO (some (.lst xs)) = true := (rfl)
theorem me1_app {F : Fns} {es : CEs} {s : Env} {r : Nat} : me1 F .append es s (.ref r) h = when (recO h[r]?) (bindL (evalCs F es s h) (meV .append (.ref r))) := by
  unfold me1 when recvOk recO
  rfl
end
end TH

/-! Plain data; tuple targets; loops over what stays; while. -/
namespace TH
/- no lists, no truths -/
mutual
def pl : Nat → CV → Bool
  | _, .non => true
  | _, .int _ => true
  | _, .str _ => true
  | n + 1, .tup xs => pls n xs
  | _, _ => false
def pls : Nat → List CV → Bool
  | _, [] => true
  | n, x :: xs => pl n x && pls n xs
end
theorem pls_iff {n : Nat} : ∀ {xs : List CV}, pls n xs = true ↔ ∀ x ∈ xs, pl n x = true
  | [] => by cases n <;> simp [pls]
  | x :: xs => by
    have ih := pls_iff (n := n) (xs := xs)
    cases n <;> simp only [pls, Bool.and_eq_true, List.mem_cons, forall_eq_or_imp, ih]
mutual
theorem pl_up : ∀ (n m : Nat) (v : CV), n ≤ m → pl n v = true → pl m v = true
  | n, m, .non, _, _ => by cases m <;> simp only [pl]
  | n, m, .int _, _, _ => by cases m <;> simp only [pl]
  | n, m, .str _, _, _ => by cases m <;> simp only [pl]
  | n, m, .bl _, _, e => by cases n <;> simp [pl] at e
  | n, m, .lst _, _, e => by cases n <;> simp [pl] at e
  | n, m, .ref _, _, e => by cases n <;> simp [pl] at e
  | 0, m, .tup _, _, e => by simp [pl] at e
  | n + 1, 0, .tup _, h, e => by omega
  | n + 1, m + 1, .tup xs, h, e => by
    simp only [pl] at e ⊢
    exact pls_up n m xs (by omega) e
theorem pls_up : ∀ (n m : Nat) (v : List CV), n ≤ m → pls n v = true → pls m v = true
  | n, m, [], _, _ => by cases m <;> simp only [pls]
  | n, m, x :: xs, h, e => by
    have e' : pl n x = true ∧ pls n xs = true := by cases n <;> simpa only [pls, Bool.and_eq_true] using e
    have := pl_up n m x h e'.1
    have := pls_up n m xs h e'.2
    cases m <;> simp only [pls, Bool.and_eq_true] <;> exact ⟨‹_›, ‹_›⟩
end
mutual
theorem den_pl (h : CH) : ∀ (n : Nat) (v : CV), pl n v = true → den h n v = some v
  | n, .non, _ => den_non ..
  | n, .int _, _ => den_int ..
  | n, .str _, _ => den_str ..
  | n, .bl _, e => by cases n <;> simp [pl] at e
  | n, .lst _, e => by cases n <;> simp [pl] at e
  | n, .ref _, e => by cases n <;> simp [pl] at e
  | 0, .tup _, e => by simp [pl] at e
  | n + 1, .tup xs, e => by
    simp only [pl] at e
    simp only [den, dens_pl h n xs e, Option.map_some]
theorem dens_pl (h : CH) : ∀ (n : Nat) (v : List CV), pls n v = true → dens h n v = some v
  | n, [], _ => dens_nil ..
  | n, x :: xs, e => by
    have e' : pl n x = true ∧ pls n xs = true := by cases n <;> simpa only [pls, Bool.and_eq_true] using e
    rw [dens_cons, den_pl h n x e'.1, dens_pl h n xs e'.2]
    rfl
end
mutual
theorem ceq_pl : ∀ (n m : Nat) (a b : CV), pl n a = true → pl m b = true → ceq a b = decide (a = b)
  | n, m, .non, b, _, hb => by cases b <;> first | rfl | (cases m <;> simp [pl] at hb)
  | n, m, .int i, b, _, hb => by
    cases b with
    | int j => simp only [ceq, CV.int.injEq, Bool.beq_eq_decide_eq]
    | bl _ => cases m <;> simp [pl] at hb
    | _ => simp [ceq]
  | n, m, .str s, b, _, hb => by
    cases b with
    | str t => simp only [ceq, CV.str.injEq, Bool.beq_eq_decide_eq]
    | _ => simp [ceq]
  | n, m, .bl _, b, ha, _ => by cases n <;> simp [pl] at ha
  | n, m, .lst _, b, ha, _ => by cases n <;> simp [pl] at ha
  | n, m, .ref _, b, ha, _ => by cases n <;> simp [pl] at ha
  | 0, m, .tup _, b, ha, _ => by simp [pl] at ha
  | n + 1, m, .tup xs, b, ha, hb => by
    cases b with
    | tup ys =>
      cases m with
      | zero => simp [pl] at hb
      | succ m =>
        simp only [pl] at ha hb
        simp only [ceq, CV.tup.injEq]
        exact ceqs_pl n m xs ys ha hb
    | _ => simp [ceq]
theorem ceqs_pl : ∀ (n m : Nat) (a b : List CV), pls n a = true → pls m b = true → ceqs a b = decide (a = b)
  | n, m, [], [], _, _ => rfl
  | n, m, [], _ :: _, _, _ => rfl
  | n, m, _ :: _, [], _, _ => rfl
  | n, m, x :: xs, y :: ys, ha, hb => by
    have ea : pl n x = true ∧ pls n xs = true := by cases n <;> simpa only [pls, Bool.and_eq_true] using ha
    have eb : pl m y = true ∧ pls m ys = true := by cases m <;> simpa only [pls, Bool.and_eq_true] using hb
    simp only [ceqs, List.cons.injEq, ceq_pl n m x y ea.1 eb.1, ceqs_pl n m xs ys ea.2 eb.2, Bool.decide_and]
end
section
variable {h : CH}
theorem eqV_plL {a b : Nat} {xs ys : List CV} (e1 : h[a]? = some (.lst xs)) (e2 : h[b]? = some (.lst ys)) (hx : pls 18 xs = true) (hy : pls 18 ys = true) : eqV h (.ref a) (.ref b) = some (decide (xs = ys)) := by
  unfold eqV
  rw [show dep = 19 + 1 from rfl]
  simp only [den, e1, e2, dens_pl h 19 xs (pls_up 18 19 xs (by omega) hx), dens_pl h 19 ys (pls_up 18 19 ys (by omega) hy), Option.map_some, Option.bind_some, ceq, ceqs_pl 18 18 xs ys hx hy]
theorem any_pl {x : CV} {n m : Nat} (hx : pl n x = true) : ∀ {zs : List CV}, pls m zs = true → (zs.any fun z => ceq z x) = decide (x ∈ zs)
  | [], _ => rfl
  | z :: zs, e => by
    have e' : pl m z = true ∧ pls m zs = true := by cases m <;> simpa only [pls, Bool.and_eq_true] using e
    rw [List.any_cons, any_pl hx e'.2, ceq_pl m n z x e'.1 hx]
    by_cases h1 : z = x
    · subst h1; simp
    · have h2 : ¬ x = z := fun e => h1 e.symm
      simp [h1, h2]
theorem inV_plL {x : CV} {r : Nat} {zs : List CV} (e : h[r]? = some (.lst zs)) (hx : pl 19 x = true) (hz : pls 19 zs = true) : inV h x (.ref r) = some (decide (x ∈ zs)) := by
  simp only [inV, e, show dep = 19 + 1 from rfl, den_pl h 20 x (pl_up 19 20 x (by omega) hx), dens_pl h 20 zs (pls_up 19 20 zs (by omega) hz), Option.bind_some, any_pl hx hz]
/-! tuple targets -/
def tupS (o : Option Env) (h : CH) : SOut := match o with
  | some s => some (.nx, s, h)
  | none => none
theorem tupS_some {s : Env} : tupS (some s) h = some (.nx, s, h) := (rfl)
theorem setN_nil {s : Env} : setN s [] [] = some s := (rfl)
theorem setN_cons {s : Env} {i : Nat} {is : List Nat} {x : CV} {xs : List CV} : setN s (i :: is) (x :: xs) = setN (s.set i (some x)) is xs := (rfl)
variable {F : Fns} {W : Nat} {s : Env}
theorem asgK_tupS {is : List Nat} {xs : List CV} : asgK F (.tup is) s (.tup xs) h = tupS (setN s is xs) h := by
  unfold asgK tupS
  simp only [asgC]
  cases setN s is xs <;> rfl
def bindS (o : Option Env) (k : Env → SOut) : SOut := match o with
  | some s => k s
  | none => none
theorem bindS_some {k : Env → SOut} : bindS (some s) k = k s := (rfl)
theorem foB_tupS {is : List Nat} {b : CSs} {xs : List CV} : foB F W (.tup is) b (.tup xs) s h = bindS (setN s is xs) (fun s' => execCs F W b s' h) := by
  unfold foB bindS
  simp only [asgC]
  cases setN s is xs <;> rfl
/-! loops over what stays -/
def forL (body : CV → Env → CH → SOut) : List CV → Env → CH → SOut
  | [] => fun s h => some (.nx, s, h)
  | x :: xs => fun s h => seqC (body x s h) (forL body xs)
theorem forL_nil {body : CV → Env → CH → SOut} : forL body [] s h = some (.nx, s, h) := (rfl)
theorem forL_cons {body : CV → Env → CH → SOut} {x : CV} {xs : List CV} : forL body (x :: xs) s h = seqC (body x s h) (forL body xs) := (rfl)
theorem forGo_forL {src : Src} {body : CV → Env → CH → SOut} {xs : List CV} (hs : ∀ h i, src.item h i = some xs[i]?) : ∀ (k i : Nat) (s : Env) (h : CH), i + k = xs.length → forGo src body k i s h = forL body (xs.drop i) s h
  | 0, i, s, h, e => by
    unfold forGo
    rw [hs, List.getElem?_eq_none (by omega), List.drop_eq_nil_of_le (by omega)]
    rfl
  | k + 1, i, s, h, e => by
    have hl : i < xs.length := by omega
    unfold forGo
    rw [hs, List.getElem?_eq_getElem hl, List.drop_eq_getElem_cons hl, forL_cons]
    simp only []
    cases hb : body xs[i] s h with
    | none => rfl
    | some p =>
      obtain ⟨f, s', h'⟩ := p
      cases f with
      | nx => exact forGo_forL hs k (i + 1) s' h' (by omega)
      | rt v => rfl
theorem foK_tup {t : CT} {b : CSs} {xs : List CV} : foK F W t b s (.tup xs) h = forL (foB F W t b) xs s h := by
  unfold foK
  rw [forGo_forL (xs := xs) (fun h i => src_tup) _ 0 s h (by simp [src_tupL])]
  rfl
theorem foK_str {t : CT} {b : CSs} {cs : List Nat} : foK F W t b s (.str cs) h = forL (foB F W t b) (cs.map fun c => .str [c]) s h := by
  unfold foK
  rw [forGo_forL (xs := cs.map fun c => .str [c]) (fun h i => src_str) _ 0 s h (by rw [src_strL]; simp)]
  rfl
end
theorem r_part {h : CH} {t : List Nat} : recvOk .partition (.str t) h = true := (rfl)
theorem r_split {h : CH} {t : List Nat} : recvOk .split (.str t) h = true := (rfl)
end TH

/-! Dicts by what they answer. -/
namespace TH
/-- all keys of one kind: tuples of texts and numbers -/
def TK (kvs : List (CV × CV)) : Prop := ∀ p ∈ kvs, tupK p.1 = true
/-- texts, numbers -/
def LK (kvs : List (CV × CV)) : Prop := ∀ p ∈ kvs, leafK p.1 = true
theorem kok_tk {kvs : List (CV × CV)} {k : CV} (t : TK kvs) (hk : tupK k = true) : kok kvs k = true := by
  unfold kok keysOk
  rw [Bool.or_eq_true]
  right
  rw [List.all_eq_true]
  intro x hx
  rcases List.mem_cons.mp hx with rfl | hx
  · exact hk
  · obtain ⟨p, hp, rfl⟩ := List.mem_map.mp hx
    exact t p hp
theorem dput_keys {kvs : List (CV × CV)} {k v : CV} : (dput kvs k v).map (·.1) = if k ∈ kvs.map (·.1) then kvs.map (·.1) else kvs.map (·.1) ++ [k] := by
  unfold dput
  by_cases h : k ∈ kvs.map (·.1)
  · rw [if_pos h, if_pos (by
      obtain ⟨p, hp, e⟩ := List.mem_map.mp h
      rw [List.any_eq_true]
      exact ⟨p, hp, decide_eq_true e⟩), List.map_map]
    refine List.map_congr_left fun p hp => ?_
    simp only [Function.comp]
    split
    · rename_i e; exact e.symm ▸ rfl
    · rfl
  · rw [if_neg h, if_neg (by
      rw [List.any_eq_true]
      rintro ⟨p, hp, e⟩
      exact h (List.mem_map.mpr ⟨p, hp, of_decide_eq_true e⟩)), List.map_append]
    rfl
theorem TK.put {kvs : List (CV × CV)} {k v : CV} (t : TK kvs) (hk : tupK k = true) : TK (dput kvs k v) := by
  intro p hp
  have h : p.1 ∈ (dput kvs k v).map (·.1) := List.mem_map.mpr ⟨p, hp, rfl⟩
  rw [dput_keys] at h
  have h2 : p.1 ∈ kvs.map (·.1) ∨ p.1 = k := by
    split at h
    · exact .inl h
    · rcases List.mem_append.mp h with h | h
      · exact .inl h
      · exact .inr (List.mem_singleton.mp h)
  rcases h2 with h | h
  · obtain ⟨q, hq, e⟩ := List.mem_map.mp h
    rw [← e]; exact t q hq
  · rw [h]; exact hk
theorem LK.put {kvs : List (CV × CV)} {k v : CV} (t : LK kvs) (hk : leafK k = true) : LK (dput kvs k v) := by
  intro p hp
  have h : p.1 ∈ (dput kvs k v).map (·.1) := List.mem_map.mpr ⟨p, hp, rfl⟩
  rw [dput_keys] at h
  have h2 : p.1 ∈ kvs.map (·.1) ∨ p.1 = k := by
    split at h
    · exact .inl h
    · rcases List.mem_append.mp h with h | h
      · exact .inl h
      · exact .inr (List.mem_singleton.mp h)
  rcases h2 with h | h
  · obtain ⟨q, hq, e⟩ := List.mem_map.mp h
    rw [← e]; exact t q hq
  · rw [h]; exact hk
theorem dput_len {kvs : List (CV × CV)} {k v : CV} : (dput kvs k v).length ≤ kvs.length + 1 := by
  unfold dput
  split <;> simp
theorem find_map {k j v : CV} (hjk : j ≠ k) : ∀ kvs : List (CV × CV), ((kvs.map fun kv => if kv.1 = k then (kv.1, v) else kv).find? fun kv => decide (kv.1 = j)).map (·.2) = (kvs.find? fun kv => decide (kv.1 = j)).map (·.2)
  | [] => rfl
  | p :: r => by
    rw [List.map_cons, List.find?_cons, List.find?_cons]
    by_cases h : p.1 = k
    · have : ¬ p.1 = j := fun e => hjk (e.symm.trans h)
      simp only [h, if_true] at this ⊢
      simp only [show ¬ k = j from fun e => hjk e.symm, decide_false]
      exact find_map hjk r
    · simp only [h, if_false]
      cases decide (p.1 = j) with
      | true => rfl
      | false => exact find_map hjk r
theorem find_self {k v : CV} : ∀ kvs : List (CV × CV), (kvs.any fun kv => decide (kv.1 = k)) = true → ((kvs.map fun kv => if kv.1 = k then (kv.1, v) else kv).find? fun kv => decide (kv.1 = k)).map (·.2) = some v
  | [], h => by simp at h
  | p :: r, h => by
    rw [List.map_cons, List.find?_cons]
    by_cases hp : p.1 = k
    · simp [hp]
    · simp only [hp, if_false, decide_false]
      rw [List.any_cons] at h
      simp only [hp, decide_false, Bool.false_or] at h
      exact find_self r h
/-- what is put is got -/
theorem dget_put {kvs : List (CV × CV)} {k v j : CV} : dget (dput kvs k v) j = if j = k then some v else dget kvs j := by
  unfold dget dput
  by_cases h : (kvs.any fun kv => decide (kv.1 = k)) = true
  · rw [if_pos h]
    by_cases hj : j = k
    · subst hj
      rw [if_pos rfl]; exact find_self kvs h
    · rw [if_neg hj]; exact find_map hj kvs
  · rw [if_neg h, List.find?_append]
    by_cases hj : j = k
    · subst hj
      rw [if_pos rfl]
      have : (kvs.find? fun kv => decide (kv.1 = j)) = none := by
        rw [List.find?_eq_none]
        intro p hp z
        exact h (List.any_eq_true.mpr ⟨p, hp, z⟩)
      rw [this]
      simp
    · rw [if_neg hj]
      have : ¬ k = j := fun e => hj e.symm
      cases kvs.find? fun kv => decide (kv.1 = j) <;> simp [this]
/-- the keys stand once -/
theorem dput_nodup {kvs : List (CV × CV)} {k v : CV} (nd : (kvs.map (·.1)).Nodup) : ((dput kvs k v).map (·.1)).Nodup := by
  rw [dput_keys]
  split
  · exact nd
  · rename_i h
    rw [List.nodup_append]
    exact ⟨nd, by simp, fun a ha b hb e => h (by rw [List.mem_singleton.mp hb] at e; rw [← e]; exact ha)⟩
section
variable {h : CH}
def getO (a : Option CO) (k d : CV) (h : CH) : Out := match a with
  | some (.dct kvs) => if kok kvs k then some ((dget kvs k).getD d, h) else none
  | some (.lkd kvs) => if kok kvs k && !kvs.isEmpty then some ((dget kvs k).getD d, h) else none
  | _ => none
theorem m_getR {r : Nat} {k d : CV} : meV .get (.ref r) [k, d] h = getO h[r]? k d h := by simp only [meV]; rfl
theorem getO_dct {kvs : List (CV × CV)} {k d : CV} (e : kok kvs k = true) : getO (some (.dct kvs)) k d h = some ((dget kvs k).getD d, h) := by simp only [getO, e, if_true]
/-- d[k] = v, k a tuple or a text -/
theorem set_dct {r : Nat} {kvs : List (CV × CV)} {k v : CV} (e : h[r]? = some (.dct kvs)) (e2 : kok kvs k = true) (hl : kvs.length < lim) : setV (.ref r) k v h = some (h.set r (.dct (dput kvs k v))) := by
  have e3 : (kok kvs k && decide (kvs.length < lim)) = true := by rw [e2, decide_eq_true hl]; rfl
  simp only [setV, e, e3, if_true]
theorem x_dct {r : Nat} {kvs : List (CV × CV)} {k : CV} (e : h[r]? = some (.dct kvs)) (e2 : kok kvs k = true) : ixV (.ref r) k h = dget kvs k := by
  unfold ixV
  split
  · simp only [e, e2, if_true]
  · simp only [e, e2, if_true]
theorem v_mulS {s : List Nat} {k : Int} (e : k < 2 ^ 62 ∧ -(2 ^ 62) < k ∧ s.length * k.toNat ≤ lim) : binV .mul (.str s) (.int k) h = some (.str (repS s k.toNat), h) := by simp only [binV, e, and_self, if_true]
theorem b_max2 {i j : Int} : biV .max2 [.int i, .int j] h = some (.int (if j > i then j else i), h) := rfl
theorem b_min2 {i j : Int} : biV .min2 [.int i, .int j] h = some (.int (if j < i then j else i), h) := rfl
theorem b_divmod {i j : Int} (e : 0 < j ∧ j < 1073741824) : biV .divmod [.int i, .int j] h = some (.tup [.int (i / j), .int (i % j)], h) := by simp only [biV, e, and_self, if_true]
variable {F : Fns} {s : Env}
/-- a[i], x = .. -/
theorem asgK_subnm {o i : CE} {n r k : Nat} {y z : CV} {xs : List CV} {iv : Int} (e1 : evalC F o s h = some (.ref r, h)) (e2 : evalC F i s h = some (.int iv, h)) (e3 : h[r]? = some (.lst xs)) (e4 : ixN xs.length iv = some k) :
    asgK F (.subnm o i n) s (.tup [y, z]) h = some (.nx, s.set n (some z), h.set r (.lst (xs.set k y))) := by
  unfold asgK
  simp only [asgC, e1, Option.bind_some, e2, set_lst e3 e4, Option.map_some]
  rfl
theorem v_mulB {i j : Int} (e : bitsOk i j = true) : binV .mul (.int i) (.int j) h = some (.int (i * j), h) := by simp only [binV, e, Bool.or_true, if_true]
theorem bits_of {i j : Int} {a b : Nat} (hi : i.natAbs < 2 ^ a) (hj : j.natAbs < 2 ^ b) (h : a + b + 2 ≤ 134217728) : bitsOk i j = true := by
  have lg : ∀ {n m : Nat}, n < 2 ^ m → n.log2 ≤ m := fun {n m} hn => by
    by_cases h0 : n = 0
    · subst h0; exact Nat.zero_le _
    · exact Nat.le_of_lt ((Nat.log2_lt h0).mpr hn)
  have := lg hi
  have := lg hj
  unfold bitsOk
  rw [decide_eq_true_eq]
  omega
end
end TH

/-! Comprehensions over a dict's names; sorted; comprehensions over numbers. -/
namespace TH
section
variable {F : Fns} {s : Env} {h : CH}
end
end TH

/-! Comprehensions whose items write to the heap; dict(pairs); sets of texts. -/
namespace TH
section
variable {F : Fns} {W : Nat} {s : Env} {h : CH}
theorem comp_off {elt cond : CE} {i : Nat} {src : Src} {xs : List CV} (p : CV → Bool) (f : CV → CV) (hs : ∀ h', Off [] h h' → ∀ j, src.item h' j = some xs[j]?) (hl : src.len h = xs.length) (hm : xs.length ≤ lim)
    (step : ∀ x ∈ xs, ∀ h', Off [] h h' → ∃ h1, testC F cond (s.set i (some x)) h' = some (p x, h1) ∧ Off [] h' h1 ∧ (p x = true → ∃ h2, evalC F elt (s.set i (some x)) h1 = some (f x, h2) ∧ Off [] h1 h2)) :
    ∃ h', compK F elt cond i s src h = some (.ref h'.length, h' ++ [.lst ((xs.filter p).map f)]) ∧ Off [] h h' := by
  obtain ⟨acc, h', e, ea, o⟩ := comp_inv (F := F) (s := s) (h := h) (elt := elt) (cond := cond) (i := i) (src := src) (fun j acc h' => acc = ((xs.take j).filter p).map f ∧ Off [] h h') (by rw [hl]; exact hm) ⟨rfl, .refl _ _⟩
    (fun j acc h' hj hi => by
      obtain ⟨rfl, o⟩ := hi
      rw [hl] at hj
      have ht : xs.take (j + 1) = xs.take j ++ [xs[j]] := by rw [List.take_add_one, List.getElem?_eq_getElem hj]; rfl
      obtain ⟨h1, e1, o1, e2⟩ := step xs[j] (List.getElem_mem hj) h' o
      refine ⟨xs[j], p xs[j], h1, by rw [hs h' o, List.getElem?_eq_getElem hj], e1, ?_⟩
      cases hp : p xs[j] with
      | true =>
        obtain ⟨h2, e2, o2⟩ := e2 hp
        refine .inl ⟨rfl, f xs[j], h2, e2, ?_, (o.trans o1).trans o2⟩
        rw [ht, List.filter_append, List.map_append]
        simp [hp]
      | false =>
        refine .inr ⟨rfl, ?_, o.trans o1⟩
        rw [ht, List.filter_append, List.map_append]
        simp [hp])
    (fun acc h' hi => by rw [hs h' hi.2, hl, List.getElem?_eq_none (Nat.le_refl _)])
  rw [hl, List.take_length] at ea
  subst ea
  exact ⟨h', e, o⟩
theorem comp_offA {elt : CE} {i : Nat} {src : Src} {xs : List CV} (f : CV → CV) (hs : ∀ h', Off [] h h' → ∀ j, src.item h' j = some xs[j]?) (hl : src.len h = xs.length) (hm : xs.length ≤ lim)
    (step : ∀ x ∈ xs, ∀ h', Off [] h h' → ∃ h2, evalC F elt (s.set i (some x)) h' = some (f x, h2) ∧ Off [] h' h2) :
    ∃ h', compK F elt (.lit (.bl true)) i s src h = some (.ref h'.length, h' ++ [.lst (xs.map f)]) ∧ Off [] h h' := by
  obtain ⟨h', e, o⟩ := comp_off (F := F) (s := s) (h := h) (elt := elt) (cond := .lit (.bl true)) (i := i) (src := src) (xs := xs) (fun _ => true) f hs hl hm fun x hx h' o => ⟨h', t_lit, .refl _ _, fun _ => step x hx h' o⟩
  rw [List.filter_eq_self.mpr (fun _ _ => rfl)] at e
  exact ⟨h', e, o⟩
theorem str_injH {a b : List Nat} (e : CV.str a = CV.str b) : a = b := by cases e; rfl
theorem mem_strs {k : List Nat} {ks : List (List Nat)} : CV.str k ∈ ks.map CV.str ↔ k ∈ ks := by
  rw [List.mem_map]
  exact ⟨fun ⟨j, hj, e⟩ => str_injH e ▸ hj, fun h => ⟨k, h, rfl⟩⟩
end
end TH

/-! A loop over a dict's keys. -/
namespace TH
section
variable {F : Fns} {W : Nat} {s : Env} {h : CH}
end
end TH

namespace TH
open PySem
/-- is_whole -/
def b0 : CSs := (.cons (.ret (.and (.bi (.isi .int) (.cons (.var 0) .nil)) (.not (.bi (.isi .bool) (.cons (.var 0) .nil))))) .nil)
def n0 : List Str := ["thing"]
/-- is_name -/
def b1 : CSs := (.cons (.iff (.or (.not (.bi (.isi .str) (.cons (.var 0) .nil))) (.not (.cmp2 .le .le (.lit (.int 1)) (.bi .len (.cons (.var 0) .nil)) (.glob "MOST_LETTERS" (.int 8))))) (.cons (.ret (.lit (.bl false))) .nil) .nil) (.cons (.ret (.bi .all (.cons (.comp (.cmp .isin (.var 1) (.glob "SMALL" (.str [97, 98, 99, 100, 101, 102, 103, 104, 105, 106, 107, 108, 109, 110, 111, 112, 113, 114, 115, 116, 117, 118, 119, 120, 121, 122]))) 1 (.val (.var 0)) (.lit (.bl true))) .nil))) .nil))
def n1 : List Str := ["thing", "sign"]
/-- is_deed -/
def b2 : CSs := (.cons (.iff (.or (.not (.bi (.isi .tup) (.cons (.var 0) .nil))) (.or (.cmp .ne (.bi .len (.cons (.var 0) .nil)) (.lit (.int 4))) (.not (.bi .all (.cons (.comp (.call 1 (.cons (.var 1) .nil)) 1 (.val (.sl (.var 0) (.ex (.lit (.int 1))) .no)) (.lit (.bl true))) .nil))))) (.cons (.ret (.lit (.bl false))) .nil) .nil) (.cons (.ret (.and (.bi (.isi .str) (.cons (.ix (.var 0) (.lit (.int 0))) .nil)) (.and (.cmp .isin (.ix (.var 0) (.lit (.int 0))) (.tup (.cons (.lit (.str [115, 101, 110, 100])) (.cons (.lit (.str [116, 97, 107, 101])) .nil)))) (.cmp .ne (.ix (.var 0) (.lit (.int 1))) (.ix (.var 0) (.lit (.int 2))))))) .nil))
def n2 : List Str := ["thing", "part"]
/-- hand_of -/
def b3 : CSs := (.cons (.iff (.cmp .eq (.ix (.var 0) (.lit (.int 0))) (.lit (.str [115, 101, 110, 100]))) (.cons (.ret (.ix (.var 0) (.lit (.int 1)))) .nil) .nil) (.cons (.ret (.ix (.var 0) (.lit (.int 2)))) .nil))
def n3 : List Str := ["deed"]
def n4 : List Str := ["_law_cell", "_law_figures", "_law_one"]
/-- is_row -/
def b12 : CSs := (.cons (.ret (.and (.bi (.isi .tup) (.cons (.var 0) .nil)) (.bi .all (.cons (.comp (.call 2 (.cons (.var 1) .nil)) 1 (.val (.var 0)) (.lit (.bl true))) .nil)))) .nil)
def n12 : List Str := ["thing", "deed"]
/-- _law_mixed -/
def b216 : CSs := (.cons (.ret (.bin .mod (.bin .mul (.var 0) (.lit (.int 577350269189625764509148780501957455647601751270126876018603))) (.bin .pow (.lit (.int 10)) (.lit (.int 60))))) .nil)
def n216 : List Str := ["_law_cell"]
/-- _law_pack -/
def b217 : CSs := (.cons (.iff (.cmp .lt (.var 1) (.bi .len (.cons (.var 0) .nil))) (.cons (.ret (.lst (.cons (.call 216 (.cons (.bin .add (.ix (.var 0) (.var 1)) (.bin .mul (.lit (.int 17)) (.var 1))) .nil)) .nil))) .nil) .nil) (.cons (.ret (.lst (.cons (.call 216 (.cons (.bin .add (.bin .mul (.lit (.int 6089)) (.var 1)) (.lit (.int 5))) .nil)) .nil))) .nil))
def n217 : List Str := ["_law_script", "_law_k"]
/-- _law_take -/
def b93 : CSs := (.cons (.asg (.subnm (.var 0) (.lit (.int 0)) 2) (.bi .divmod (.cons (.ix (.var 0) (.lit (.int 0))) (.cons (.var 1) .nil)))) (.cons (.ret (.var 2)) .nil))
def n93 : List Str := ["_law_pack_here", "_law_size", "_law_digit"]
/-- _law_hands -/
def b218 : CSs := (.cons (.asg (.nm 1) (.lit (.str [97, 98, 99, 100, 101, 102, 103, 104, 105, 106, 107, 108, 109, 110, 111, 112, 113, 114, 115, 116, 117, 118, 119, 120, 121, 122]))) (.cons (.asg (.nm 2) (.call 93 (.cons (.var 0) (.cons (.lit (.int 26)) .nil)))) (.cons (.asg (.nm 1) (.bin .add (.sl (.var 1) (.ex (.var 2)) .no) (.sl (.var 1) .no (.ex (.var 2))))) (.cons (.asg (.nm 3) (.call 93 (.cons (.var 0) (.cons (.lit (.int 3)) .nil)))) (.cons (.asg (.nm 4) (.call 93 (.cons (.var 0) (.cons (.lit (.int 8)) .nil)))) (.cons (.asg (.nm 5) (.bin .add (.lit (.int 2)) (.call 93 (.cons (.var 0) (.cons (.lit (.int 3)) .nil))))) (.cons (.iff (.cmp .eq (.var 3) (.lit (.int 0))) (.cons (.ret (.comp (.bin .mul (.ix (.var 1) (.lit (.int 0))) (.bin .add (.lit (.int 1)) (.bin .mod (.bin .add (.var 4) (.var 6)) (.lit (.int 8))))) 6 (.range1 (.var 5)) (.lit (.bl true)))) .nil) .nil) (.cons (.iff (.cmp .eq (.var 3) (.lit (.int 1))) (.cons (.ret (.comp (.bin .add (.ix (.var 1) (.var 6)) (.sl (.var 1) (.ex (.lit (.int 4))) (.ex (.bin .add (.lit (.int 4)) (.var 4))))) 6 (.range1 (.var 5)) (.lit (.bl true)))) .nil) .nil) (.cons (.ret (.comp (.bin .add (.sl (.var 1) (.ex (.lit (.int 4))) (.ex (.bin .add (.lit (.int 4)) (.var 4)))) (.ix (.var 1) (.var 6))) 6 (.range1 (.var 5)) (.lit (.bl true)))) .nil)))))))))
def n218 : List Str := ["_law_pack_here", "_law_letters", "_law_turn", "_law_pick", "_law_size", "_law_amount", "_law_k"]
/-- run_within -/
def b144 : CSs := (.cons (.expr (.call 138 (.cons (.var 1) .nil))) (.cons (.asg (.nm 2) (.call 142 (.cons (.var 0) (.cons (.var 1) .nil)))) (.cons (.asg (.nm 3) (.lst .nil)) (.cons (.wh (.cmp .lt (.bi .len (.cons (.var 3) .nil)) (.bi .len (.cons (.var 0) .nil))) (.cons (.asg (.nm 4) (.comp (.var 5) 5 (.range1 (.bi .len (.cons (.var 0) .nil))) (.and (.cmp .notin (.var 5) (.var 3)) (.bi .all (.cons (.comp (.cmp .isin (.var 6) (.var 3)) 6 (.val (.ix (.var 2) (.var 5))) (.lit (.bl true))) .nil))))) (.cons (.iff (.cmp .eq (.var 4) (.lst .nil)) (.cons (.ret (.tup (.cons (.lit (.str [114, 111, 117, 110, 100])) (.cons (.call 143 (.cons (.var 2) (.cons (.var 3) .nil))) .nil)))) .nil) .nil) (.cons (.expr (.me .append (.var 3) (.cons (.ix (.var 4) (.lit (.int 0))) .nil))) .nil)))) (.cons (.ret (.tup (.cons (.lit (.str [114, 111, 119])) (.cons (.bi .tuple (.cons (.comp (.ix (.var 0) (.var 7)) 7 (.val (.var 3)) (.lit (.bl true))) .nil)) .nil)))) .nil)))))
def n144 : List Str := ["story", "rooms", "ahead", "done", "free", "k", "other", "number"]
end TH

namespace TH
open PySem
/-- are_plots -/
def b239 : CSs := (.cons (.ret (.and (.bi (.isi .tup) (.cons (.var 0) .nil)) (.and (.cmp .gt (.bi .len (.cons (.var 0) .nil)) (.lit (.int 0))) (.bi .all (.cons (.comp (.call 240 (.cons (.var 1) .nil)) 1 (.val (.var 0)) (.lit (.bl true))) .nil))))) .nil)
def n239 : List Str := ["thing", "part"]
/-- is_plot -/
def b240 : CSs := (.cons (.iff (.or (.not (.bi (.isi .tup) (.cons (.var 0) .nil))) (.or (.cmp .lt (.bi .len (.cons (.var 0) .nil)) (.lit (.int 2))) (.not (.bi (.isi .str) (.cons (.ix (.var 0) (.lit (.int 0))) .nil))))) (.cons (.ret (.lit (.bl false))) .nil) .nil) (.cons (.iff (.cmp .eq (.ix (.var 0) (.lit (.int 0))) (.lit (.str [114, 111, 119]))) (.cons (.ret (.and (.cmp .eq (.bi .len (.cons (.var 0) .nil)) (.lit (.int 2))) (.call 12 (.cons (.ix (.var 0) (.lit (.int 1))) .nil)))) .nil) .nil) (.cons (.iff (.or (.cmp .eq (.ix (.var 0) (.lit (.int 0))) (.lit (.str [116, 104, 101, 110]))) (.cmp .eq (.ix (.var 0) (.lit (.int 0))) (.lit (.str [111, 114])))) (.cons (.ret (.and (.cmp .eq (.bi .len (.cons (.var 0) .nil)) (.lit (.int 2))) (.call 239 (.cons (.ix (.var 0) (.lit (.int 1))) .nil)))) .nil) .nil) (.cons (.iff (.or (.cmp .ne (.ix (.var 0) (.lit (.int 0))) (.lit (.str [97, 103, 97, 105, 110]))) (.or (.cmp .ne (.bi .len (.cons (.var 0) .nil)) (.lit (.int 4))) (.or (.not (.call 0 (.cons (.ix (.var 0) (.lit (.int 2))) .nil))) (.not (.call 0 (.cons (.ix (.var 0) (.lit (.int 3))) .nil)))))) (.cons (.ret (.lit (.bl false))) .nil) .nil) (.cons (.ret (.and (.cmp3 .le .le .le (.lit (.int 0)) (.ix (.var 0) (.lit (.int 2))) (.ix (.var 0) (.lit (.int 3))) (.glob "MOST_AGAIN" (.int 4))) (.call 240 (.cons (.ix (.var 0) (.lit (.int 1))) .nil)))) .nil)))))
def n240 : List Str := ["thing"]
/-- _law_deed -/
def b265 : CSs := (.cons (.asg (.nm 2) (.ix (.lst (.cons (.lit (.str [115, 101, 110, 100])) (.cons (.lit (.str [116, 97, 107, 101])) .nil))) (.call 93 (.cons (.var 0) (.cons (.lit (.int 2)) .nil))))) (.cons (.asg (.nm 3) (.call 93 (.cons (.var 0) (.cons (.bi .len (.cons (.var 1) .nil)) .nil)))) (.cons (.asg (.nm 4) (.bin .mod (.bin .add (.bin .add (.var 3) (.lit (.int 1))) (.call 93 (.cons (.var 0) (.cons (.bin .sub (.bi .len (.cons (.var 1) .nil)) (.lit (.int 1))) .nil)))) (.bi .len (.cons (.var 1) .nil)))) (.cons (.ret (.tup (.cons (.var 2) (.cons (.ix (.var 1) (.var 3)) (.cons (.ix (.var 1) (.var 4)) (.cons (.ix (.lst (.cons (.lit (.str [120])) (.cons (.lit (.str [103, 111])) (.cons (.lit (.str [97, 98, 99, 100, 101, 102, 103, 104])) .nil)))) (.call 93 (.cons (.var 0) (.cons (.lit (.int 3)) .nil)))) .nil)))))) .nil))))
def n265 : List Str := ["_law_pack_here", "_law_names", "_law_kind", "_law_at", "_law_to"]
/-- _law_row -/
def b266 : CSs := (.cons (.asg (.nm 3) (.lst .nil)) (.cons (.fo (.nm 4) (.range1 (.call 93 (.cons (.var 0) (.cons (.bin .add (.var 2) (.lit (.int 1))) .nil)))) (.cons (.asg (.nm 5) (.call 265 (.cons (.var 0) (.cons (.var 1) .nil)))) (.cons (.expr (.me .append (.var 3) (.cons (.var 5) .nil))) (.cons (.iff (.and (.cmp .eq (.ix (.var 5) (.lit (.int 0))) (.lit (.str [115, 101, 110, 100]))) (.cmp .eq (.call 93 (.cons (.var 0) (.cons (.lit (.int 3)) .nil))) (.lit (.int 0)))) (.cons (.expr (.me .append (.var 3) (.cons (.bin .add (.tup (.cons (.lit (.str [116, 97, 107, 101])) .nil)) (.sl (.var 5) (.ex (.lit (.int 1))) .no)) .nil))) .nil) .nil) .nil)))) (.cons (.ret (.bi .tuple (.cons (.var 3) .nil))) .nil)))
def n266 : List Str := ["_law_pack_here", "_law_names", "_law_most", "_law_found", "_law_turn", "_law_deed_here"]
/-- _law_plot -/
def b267 : CSs := (.cons (.asg (.nm 3) (.call 93 (.cons (.var 0) (.cons (.lit (.int 6)) .nil)))) (.cons (.iff (.or (.cmp .eq (.var 2) (.lit (.int 0))) (.cmp .lt (.var 3) (.lit (.int 2)))) (.cons (.ret (.tup (.cons (.lit (.str [114, 111, 119])) (.cons (.call 266 (.cons (.var 0) (.cons (.var 1) (.cons (.lit (.int 2)) .nil)))) .nil)))) .nil) .nil) (.cons (.iff (.cmp .eq (.var 3) (.lit (.int 5))) (.cons (.asg (.nm 4) (.call 93 (.cons (.var 0) (.cons (.lit (.int 3)) .nil)))) (.cons (.ret (.tup (.cons (.lit (.str [97, 103, 97, 105, 110])) (.cons (.call 267 (.cons (.var 0) (.cons (.var 1) (.cons (.bin .sub (.var 2) (.lit (.int 1))) .nil)))) (.cons (.var 4) (.cons (.bin .add (.var 4) (.call 93 (.cons (.var 0) (.cons (.lit (.int 3)) .nil)))) .nil)))))) .nil)) .nil) (.cons (.asg (.nm 5) (.lst .nil)) (.cons (.fo (.nm 6) (.range1 (.bin .add (.lit (.int 1)) (.call 93 (.cons (.var 0) (.cons (.lit (.int 3)) .nil))))) (.cons (.expr (.me .append (.var 5) (.cons (.call 267 (.cons (.var 0) (.cons (.var 1) (.cons (.bin .sub (.var 2) (.lit (.int 1))) .nil)))) .nil))) .nil)) (.cons (.ret (.tup (.cons (.ix (.lst (.cons (.lit (.str [116, 104, 101, 110])) (.cons (.lit (.str [111, 114])) (.cons (.lit (.str [116, 104, 101, 110])) .nil)))) (.bin .sub (.var 3) (.lit (.int 2)))) (.cons (.bi .tuple (.cons (.var 5) .nil)) .nil)))) .nil))))))
def n267 : List Str := ["_law_pack_here", "_law_names", "_law_deep", "_law_pick", "_law_least", "_law_parts", "_law_turn"]
/-- _law_is_name -/
def b268 : CSs := (.cons (.iff (.or (.not (.bi (.isi .str) (.cons (.var 0) .nil))) (.not (.cmp2 .le .le (.lit (.int 1)) (.bi .len (.cons (.var 0) .nil)) (.lit (.int 8))))) (.cons (.ret (.lit (.bl false))) .nil) .nil) (.cons (.ret (.bi .all (.cons (.comp (.cmp .isin (.var 1) (.lit (.str [97, 98, 99, 100, 101, 102, 103, 104, 105, 106, 107, 108, 109, 110, 111, 112, 113, 114, 115, 116, 117, 118, 119, 120, 121, 122]))) 1 (.val (.var 0)) (.lit (.bl true))) .nil))) .nil))
def n268 : List Str := ["_law_thing", "_law_sign"]
/-- _law_is_deed -/
def b269 : CSs := (.cons (.iff (.or (.not (.bi (.isi .tup) (.cons (.var 0) .nil))) (.or (.cmp .ne (.bi .len (.cons (.var 0) .nil)) (.lit (.int 4))) (.not (.bi .all (.cons (.comp (.call 268 (.cons (.var 1) .nil)) 1 (.val (.var 0)) (.lit (.bl true))) .nil))))) (.cons (.ret (.lit (.bl false))) .nil) .nil) (.cons (.ret (.and (.cmp .isin (.ix (.var 0) (.lit (.int 0))) (.lst (.cons (.lit (.str [115, 101, 110, 100])) (.cons (.lit (.str [116, 97, 107, 101])) .nil)))) (.cmp .ne (.ix (.var 0) (.lit (.int 1))) (.ix (.var 0) (.lit (.int 2)))))) .nil))
def n269 : List Str := ["_law_thing", "_law_part"]
/-- _law_is_plot -/
def b270 : CSs := (.cons (.iff (.or (.not (.bi (.isi .tup) (.cons (.var 0) .nil))) (.or (.cmp .lt (.bi .len (.cons (.var 0) .nil)) (.lit (.int 2))) (.not (.bi (.isi .str) (.cons (.ix (.var 0) (.lit (.int 0))) .nil))))) (.cons (.ret (.lit (.bl false))) .nil) .nil) (.cons (.iff (.cmp .eq (.ix (.var 0) (.lit (.int 0))) (.lit (.str [114, 111, 119]))) (.cons (.iff (.or (.cmp .ne (.bi .len (.cons (.var 0) .nil)) (.lit (.int 2))) (.not (.bi (.isi .tup) (.cons (.ix (.var 0) (.lit (.int 1))) .nil)))) (.cons (.ret (.lit (.bl false))) .nil) .nil) (.cons (.ret (.bi .all (.cons (.comp (.call 269 (.cons (.var 2) .nil)) 2 (.val (.ix (.var 0) (.lit (.int 1)))) (.lit (.bl true))) .nil))) .nil)) .nil) (.cons (.iff (.cmp .eq (.ix (.var 0) (.lit (.int 0))) (.lit (.str [97, 103, 97, 105, 110]))) (.cons (.iff (.cmp .ne (.bi .len (.cons (.var 0) .nil)) (.lit (.int 4))) (.cons (.ret (.lit (.bl false))) .nil) .nil) (.cons (.fo (.nm 1) (.val (.sl (.var 0) (.ex (.lit (.int 2))) .no)) (.cons (.iff (.or (.not (.bi (.isi .int) (.cons (.var 1) .nil))) (.bi (.isi .bool) (.cons (.var 1) .nil))) (.cons (.ret (.lit (.bl false))) .nil) .nil) .nil)) (.cons (.ret (.and (.cmp3 .le .le .le (.lit (.int 0)) (.ix (.var 0) (.lit (.int 2))) (.ix (.var 0) (.lit (.int 3))) (.lit (.int 4))) (.call 270 (.cons (.ix (.var 0) (.lit (.int 1))) .nil)))) .nil))) .nil) (.cons (.iff (.or (.cmp .notin (.ix (.var 0) (.lit (.int 0))) (.lst (.cons (.lit (.str [116, 104, 101, 110])) (.cons (.lit (.str [111, 114])) .nil)))) (.cmp .ne (.bi .len (.cons (.var 0) .nil)) (.lit (.int 2)))) (.cons (.ret (.lit (.bl false))) .nil) .nil) (.cons (.iff (.or (.not (.bi (.isi .tup) (.cons (.ix (.var 0) (.lit (.int 1))) .nil))) (.cmp .eq (.ix (.var 0) (.lit (.int 1))) (.tup .nil))) (.cons (.ret (.lit (.bl false))) .nil) .nil) (.cons (.ret (.bi .all (.cons (.comp (.call 270 (.cons (.var 3) .nil)) 3 (.val (.ix (.var 0) (.lit (.int 1)))) (.lit (.bl true))) .nil))) .nil))))))
def n270 : List Str := ["_law_thing", "_law_one", "_law_deed_here", "_law_part"]
/-- _law_same -/
def b271 : CSs := (.cons (.ret (.and (.bi (.isi .bool) (.cons (.var 0) .nil)) (.cmp .eq (.var 0) (.var 1)))) .nil)
def n271 : List Str := ["_law_found", "_law_due"]
/-- _law_spoilt_here -/
def b272 : CSs := (.cons (.asg (.nm 2) (.call 93 (.cons (.var 0) (.cons (.lit (.int 12)) .nil)))) (.cons (.asg (.nm 3) (.ix (.lst (.cons (.lit (.str [116, 104, 101, 110])) (.cons (.lit (.str [111, 114])) (.cons (.lit (.str [114, 111, 119])) (.cons (.lit (.str [97, 103, 97, 105, 110])) (.cons (.lit (.str [97, 110, 100])) (.cons (.lit (.str [])) .nil))))))) (.call 93 (.cons (.var 0) (.cons (.lit (.int 6)) .nil))))) (.cons (.asg (.nm 4) (.lst (.cons (.bi .list (.cons (.var 1) .nil)) (.cons (.bin .add (.tup (.cons (.var 3) .nil)) (.sl (.var 1) (.ex (.lit (.int 1))) .no)) (.cons (.bin .add (.var 1) (.tup (.cons (.tup .nil) .nil))) (.cons (.sl (.var 1) .no (.ex (.lit (.int 1)))) (.cons (.tup (.cons (.var 1) .nil)) .nil))))))) (.cons (.expr (.me .append (.var 4) (.cons (.bin .add (.tup (.cons (.ix (.var 1) (.lit (.int 0))) (.cons (.bi .list (.cons (.ix (.var 1) (.lit (.int 1))) .nil)) .nil))) (.sl (.var 1) (.ex (.lit (.int 2))) .no)) .nil))) (.cons (.asg (.nm 4) (.bin .add (.var 4) (.lst (.cons (.tup (.cons (.lit (.str [97, 103, 97, 105, 110])) (.cons (.var 1) (.cons (.lit (.int 2)) (.cons (.lit (.int 1)) .nil))))) (.cons (.tup (.cons (.lit (.str [97, 103, 97, 105, 110])) (.cons (.var 1) (.cons (.lit (.int 0)) (.cons (.lit (.int 5)) .nil))))) .nil))))) (.cons (.asg (.nm 4) (.bin .add (.var 4) (.lst (.cons (.tup (.cons (.lit (.str [97, 103, 97, 105, 110])) (.cons (.var 1) (.cons (.lit (.bl true)) (.cons (.lit (.int 2)) .nil))))) (.cons (.tup (.cons (.lit (.str [97, 103, 97, 105, 110])) (.cons (.var 1) (.cons (.neg (.lit (.int 1))) (.cons (.lit (.int 1)) .nil))))) .nil))))) (.cons (.ret (.ix (.bin .add (.var 4) (.lst (.cons (.tup (.cons (.lit (.str [97, 103, 97, 105, 110])) (.cons (.var 1) (.cons (.lit (.int 0)) (.cons (.lit (.int 4)) .nil))))) (.cons (.lit .non) .nil)))) (.var 2))) .nil)))))))
def n272 : List Str := ["_law_pack_here", "_law_plot_here", "_law_pick", "_law_word", "_law_some"]
/-- _law_spoilt -/
def b273 : CSs := (.cons (.iff (.or (.cmp .eq (.ix (.var 1) (.lit (.int 0))) (.lit (.str [114, 111, 119]))) (.cmp .eq (.call 93 (.cons (.var 0) (.cons (.lit (.int 3)) .nil))) (.lit (.int 0)))) (.cons (.iff (.and (.cmp .eq (.ix (.var 1) (.lit (.int 0))) (.lit (.str [114, 111, 119]))) (.cmp .eq (.call 93 (.cons (.var 0) (.cons (.lit (.int 2)) .nil))) (.lit (.int 0)))) (.cons (.asg (.nm 2) (.lst (.cons (.lit .non) (.cons (.tup (.cons (.lit (.str [115, 101, 110, 100])) (.cons (.lit (.str [97])) (.cons (.lit (.str [97])) (.cons (.lit (.str [120])) .nil))))) (.cons (.tup (.cons (.lit (.str [103, 105, 118, 101])) (.cons (.lit (.str [97])) (.cons (.lit (.str [98])) (.cons (.lit (.str [120])) .nil))))) (.cons (.tup (.cons (.lit (.str [115, 101, 110, 100])) (.cons (.lit (.str [97])) (.cons (.lit (.str [98])) .nil)))) (.cons (.lst (.cons (.lit (.str [115, 101, 110, 100])) (.cons (.lit (.str [97])) (.cons (.lit (.str [98])) (.cons (.lit (.str [120])) .nil))))) .nil))))))) (.cons (.asg (.nm 2) (.bin .add (.var 2) (.lst (.cons (.tup (.cons (.lit (.str [115, 101, 110, 100])) (.cons (.lit (.str [65])) (.cons (.lit (.str [98])) (.cons (.lit (.str [120])) .nil))))) (.cons (.tup (.cons (.lit (.str [116, 97, 107, 101])) (.cons (.lit (.str [97])) (.cons (.lit (.str [98])) (.cons (.lit (.str [97, 98, 99, 100, 101, 102, 103, 104, 105])) .nil))))) (.cons (.lit (.str [115, 101, 110, 100])) (.cons (.tup (.cons (.lit (.str [115, 101, 110, 100])) (.cons (.lit (.str [97])) (.cons (.lit (.str [])) (.cons (.lit (.str [120])) .nil))))) (.cons (.tup .nil) .nil)))))))) (.cons (.ret (.tup (.cons (.lit (.str [114, 111, 119])) (.cons (.bin .add (.ix (.var 1) (.lit (.int 1))) (.tup (.cons (.ix (.var 2) (.call 93 (.cons (.var 0) (.cons (.lit (.int 10)) .nil)))) .nil))) .nil)))) .nil))) .nil) (.cons (.ret (.call 272 (.cons (.var 0) (.cons (.var 1) .nil)))) .nil)) .nil) (.cons (.iff (.cmp .eq (.ix (.var 1) (.lit (.int 0))) (.lit (.str [97, 103, 97, 105, 110]))) (.cons (.ret (.bin .add (.tup (.cons (.lit (.str [97, 103, 97, 105, 110])) (.cons (.call 273 (.cons (.var 0) (.cons (.ix (.var 1) (.lit (.int 1))) .nil))) .nil))) (.sl (.var 1) (.ex (.lit (.int 2))) .no))) .nil) .nil) (.cons (.asg (.nm 3) (.call 93 (.cons (.var 0) (.cons (.bi .len (.cons (.ix (.var 1) (.lit (.int 1))) .nil)) .nil)))) (.cons (.ret (.tup (.cons (.ix (.var 1) (.lit (.int 0))) (.cons (.bin .add (.bin .add (.sl (.ix (.var 1) (.lit (.int 1))) .no (.ex (.var 3))) (.tup (.cons (.call 273 (.cons (.var 0) (.cons (.ix (.ix (.var 1) (.lit (.int 1))) (.var 3)) .nil))) .nil))) (.sl (.ix (.var 1) (.lit (.int 1))) (.ex (.bin .add (.var 3) (.lit (.int 1)))) .no)) .nil)))) .nil))))
def n273 : List Str := ["_law_pack_here", "_law_plot_here", "_law_odd", "_law_at"]
/-- law -/
def b274 : CSs := (.cons (.fo (.nm 1) (.range1 (.bi .max2 (.cons (.lit (.int 1)) (.cons (.bi .min2 (.cons (.bi .len (.cons (.var 0) .nil)) (.cons (.lit (.int 12)) .nil))) .nil)))) (.cons (.asg (.nm 2) (.call 217 (.cons (.var 0) (.cons (.var 1) .nil)))) (.cons (.asg (.nm 3) (.call 218 (.cons (.var 2) .nil))) (.cons (.asg (.nm 4) (.call 267 (.cons (.var 2) (.cons (.var 3) (.cons (.bin .add (.lit (.int 1)) (.call 93 (.cons (.var 2) (.cons (.lit (.int 3)) .nil)))) .nil))))) (.cons (.iff (.cmp .isnot (.call 240 (.cons (.var 4) .nil)) (.lit (.bl true))) (.cons (.ret (.lit (.bl false))) .nil) .nil) (.cons (.fo (.nm 5) (.range1 (.lit (.int 3))) (.cons (.asg (.nm 6) (.call 273 (.cons (.var 2) (.cons (.var 4) .nil)))) (.cons (.iff (.not (.call 271 (.cons (.call 240 (.cons (.var 6) .nil)) (.cons (.call 270 (.cons (.var 6) .nil)) .nil)))) (.cons (.ret (.lit (.bl false))) .nil) .nil) .nil))) .nil)))))) (.cons (.fo (.nm 6) (.val (.lst (.cons (.lit .non) (.cons (.lit (.int 7)) (.cons (.lit (.str [114, 111, 119])) (.cons (.tup .nil) (.cons (.lst .nil) (.cons .dct0 (.cons (.tup (.cons (.lit (.str [114, 111, 119])) .nil)) (.cons (.tup (.cons (.lit (.str [114, 111, 119])) (.cons (.tup .nil) .nil))) (.cons (.tup (.cons (.lit (.str [116, 104, 101, 110])) (.cons (.tup .nil) .nil))) (.cons (.tup (.cons (.lit (.str [111, 114])) (.cons (.tup (.cons (.lit .non) .nil)) .nil))) (.cons (.tup (.cons (.lit (.str [97, 103, 97, 105, 110])) (.cons (.tup .nil) (.cons (.lit (.int 0)) (.cons (.lit (.int 1)) .nil))))) .nil))))))))))))) (.cons (.iff (.not (.call 271 (.cons (.call 240 (.cons (.var 6) .nil)) (.cons (.call 270 (.cons (.var 6) .nil)) .nil)))) (.cons (.ret (.lit (.bl false))) .nil) .nil) .nil)) (.cons (.ret (.lit (.bl true))) .nil)))
def n274 : List Str := ["_law_script", "_law_k", "_law_pack_here", "_law_names", "_law_plot_here", "_law_turn", "_law_odd"]
end TH

namespace TH
open PySem
/-! ### pools -/
/-- a pool that stands at p -/
def Pool (h : CH) (p : Nat) : Prop := ∃ a b c : Int, h[p]? = some (.lst [.int a, .int b, .int c]) ∧ 0 ≤ a ∧ 0 ≤ b ∧ b < 1000000403 ∧ 0 ≤ c ∧ c < 1000000513
theorem Pool.keep {S : List Nat} {h h' : CH} {p : Nat} (q : Pool h p) (o : Off S h h') (n : p ∉ S) : Pool h' p := by
  obtain ⟨a, b, c, e, r⟩ := q
  exact ⟨a, b, c, o.get e n, r⟩
theorem Pool.lt {h : CH} {p : Nat} (q : Pool h p) : p < h.length := by
  obtain ⟨a, b, c, e, r⟩ := q
  exact lt_of e
theorem b64_l {i : Int} {j : Int} (h : b64 i = true) : (b64 i || b64 j) = true := by rw [h, Bool.true_or]
end TH

namespace TH
open PySem
/-! ### names -/
def al : List Nat := [97, 98, 99, 100, 101, 102, 103, 104, 105, 106, 107, 108, 109, 110, 111, 112, 113, 114, 115, 116, 117, 118, 119, 120, 121, 122]
/-- a name: one to eight letters -/
def Nm (k : List Nat) : Prop := 1 ≤ k.length ∧ k.length ≤ 8 ∧ ∀ c ∈ k, c ∈ al
theorem al_len : al.length = 26 := rfl
theorem lim_big {n : Nat} (h : n ≤ 100000) : n ≤ lim := Nat.le_trans h (by decide)
theorem lim_lt {n : Nat} (h : n ≤ 100000) : n < lim := Nat.lt_of_le_of_lt h (by decide)
/-- of twenty-six there is one that is not among fewer -/
theorem nodup_len {α : Type} [DecidableEq α] : ∀ {xs ys : List α}, xs.Nodup → (∀ x ∈ xs, x ∈ ys) → xs.length ≤ ys.length
  | [], _, _, _ => Nat.zero_le _
  | x :: xs, ys, nd, h => by
    have h1 : x ∈ ys := h x List.mem_cons_self
    have h2 := nodup_len (xs := xs) (ys := ys.erase x) (List.nodup_cons.mp nd).2 fun y hy => by
      rw [List.mem_erase_of_ne]
      · exact h y (List.mem_cons_of_mem _ hy)
      · rintro rfl; exact (List.nodup_cons.mp nd).1 hy
    rw [List.length_erase_of_mem h1] at h2
    have : 0 < ys.length := List.length_pos_of_mem h1
    simp only [List.length_cons]
    omega
end TH

namespace TH
open PySem
end TH

namespace TH
open PySem
/-! ### words and deeds -/
/-- a value whose type may be asked -/
def Typ (h : CH) : CV → Prop
  | .ref r => (∃ xs, h[r]? = some (.lst xs)) ∨ ∃ kvs, h[r]? = some (.dct kvs)
  | .lst _ => False
  | _ => True
theorem Typ.off {h h' : CH} {v : CV} (t : Typ h v) (o : Off [] h h') : Typ h' v := by
  cases v with
  | ref r =>
    rcases t with ⟨xs, e⟩ | ⟨kvs, e⟩
    · exact .inl ⟨xs, o.get e (by simp)⟩
    · exact .inr ⟨kvs, o.get e (by simp)⟩
  | _ => exact t
theorem b_isi {t : Ty} {a : CV} {h : CH} {b : Bool} (e : isiV t a h = some b) : biV (.isi t) [a] h = some (.bl b, h) := by simp only [biV, e, Option.map_some]
def isInt : CV → Bool
  | .int _ => true | _ => false
def isStr : CV → Bool
  | .str _ => true | _ => false
def isTup : CV → Bool
  | .tup _ => true | _ => false
def isBl : CV → Bool
  | .bl _ => true | _ => false
theorem i_str {h : CH} {v : CV} (t : Typ h v) : isiV .str v h = some (isStr v) := by
  cases v with
  | ref r => rcases t with ⟨xs, e⟩ | ⟨kvs, e⟩ <;> simp only [isiV, e, isStr]
  | lst _ => exact t.elim
  | _ => rfl
theorem i_tup {h : CH} {v : CV} (t : Typ h v) : isiV .tup v h = some (isTup v) := by
  cases v with
  | ref r => rcases t with ⟨xs, e⟩ | ⟨kvs, e⟩ <;> simp only [isiV, e, isTup]
  | lst _ => exact t.elim
  | _ => rfl
theorem i_int {h : CH} {v : CV} (t : Typ h v) : isiV .int v h = some (isInt v || isBl v) := by
  cases v with
  | ref r => rcases t with ⟨xs, e⟩ | ⟨kvs, e⟩ <;> simp only [isiV, e, isInt, isBl, Bool.or_self]
  | lst _ => exact t.elim
  | _ => rfl
theorem i_bool {h : CH} {v : CV} (t : Typ h v) : isiV .bool v h = some (isBl v) := by
  cases v with
  | ref r => rcases t with ⟨xs, e⟩ | ⟨kvs, e⟩ <;> simp only [isiV, e, isBl]
  | lst _ => exact t.elim
  | _ => rfl
theorem run_whole (F : Fns) (W : Nat) {h : CH} {v : CV} (t : Typ h v) : runC F W n0.length b0 [v] h = some (.bl (isInt v), h) := by
  cases e : isBl v with
  | true =>
    have : isInt v = false := by cases v <;> first | rfl | cases e
    simp only [b0, n0, run_eq, List.length_cons, List.length_nil, List.map_cons, List.map_nil, List.cons_append, List.nil_append, List.replicate, List.set_cons_zero, List.set_cons_succ, x_cons, x_nil, seqC_nx, seqC_rt, x_asg, asgK_nm, asgK_sub, retS_some, retH_some, sub1_eq, sub2_eq, x_expr, exK_eq, x_ret, retK_eq, x_retn, x_iff, iffK_t, iffK_f, x_fo, x_pas, x_par, runK_nx, runK_rt, bindE_some, bindL_some, bindO_some, bindI_some, bindB_some, liftB_some, retV_some, asB_bl, bin1_eq, e_bin, cmpK_eq, cmp1_eq, e_cmp, cmpR_t, cmpR_f, cmp2a_eq, e_cmp2, cmpR3_t, cmpR3_f, cmp3a_eq, e_cmp3, e_and, e_or, andK_t, andK_f, orK_t, orK_f, bOut_eq, notK_eq, e_not, negK_int, e_neg, iteK_t, iteK_f, e_ite, tupK2_eq, e_tup, lstK_eq, e_lst, e_dct0, ixK_eq, ix1_eq, e_ix, sl1_eq, sl2_eq, e_sl, e_rev, o_no, o_ex, oK_int, e_call, e_bi, e_me, s_nil, s_cons, consA_eq, consB_eq, e_lit, e_glob, e_var0, e_varS, e_comp, i_range1, i_range2, r2a_eq, i_val, vK_tup, vK_str, t_lit, t_cmp, t_cmp2, t_cmp3, t_call, t_bi, t_var, t_and, t_or, t_not, andT_t, andT_f, orT_t, orT_f, notT_eq, v_add, v_sub, c_lt, c_le, c_gt, c_ge, c_eqI, c_neI, c_eqS, c_neS, c_isN, c_isnotN, c_isB, c_isnotB, x_tup, x_lstV, sl_lstV, sl_tup, b_lenT, b_lenV, decide_true, decide_false, Bool.not_true, Bool.not_false, b_isi (i_int t), b_isi (i_bool t), e, this, Bool.or_true]
  | false =>
    cases e2 : isInt v <;> simp only [b0, n0, run_eq, List.length_cons, List.length_nil, List.map_cons, List.map_nil, List.cons_append, List.nil_append, List.replicate, List.set_cons_zero, List.set_cons_succ, x_cons, x_nil, seqC_nx, seqC_rt, x_asg, asgK_nm, asgK_sub, retS_some, retH_some, sub1_eq, sub2_eq, x_expr, exK_eq, x_ret, retK_eq, x_retn, x_iff, iffK_t, iffK_f, x_fo, x_pas, x_par, runK_nx, runK_rt, bindE_some, bindL_some, bindO_some, bindI_some, bindB_some, liftB_some, retV_some, asB_bl, bin1_eq, e_bin, cmpK_eq, cmp1_eq, e_cmp, cmpR_t, cmpR_f, cmp2a_eq, e_cmp2, cmpR3_t, cmpR3_f, cmp3a_eq, e_cmp3, e_and, e_or, andK_t, andK_f, orK_t, orK_f, bOut_eq, notK_eq, e_not, negK_int, e_neg, iteK_t, iteK_f, e_ite, tupK2_eq, e_tup, lstK_eq, e_lst, e_dct0, ixK_eq, ix1_eq, e_ix, sl1_eq, sl2_eq, e_sl, e_rev, o_no, o_ex, oK_int, e_call, e_bi, e_me, s_nil, s_cons, consA_eq, consB_eq, e_lit, e_glob, e_var0, e_varS, e_comp, i_range1, i_range2, r2a_eq, i_val, vK_tup, vK_str, t_lit, t_cmp, t_cmp2, t_cmp3, t_call, t_bi, t_var, t_and, t_or, t_not, andT_t, andT_f, orT_t, orT_f, notT_eq, v_add, v_sub, c_lt, c_le, c_gt, c_ge, c_eqI, c_neI, c_eqS, c_neS, c_isN, c_isnotN, c_isB, c_isnotB, x_tup, x_lstV, sl_lstV, sl_tup, b_lenT, b_lenV, decide_true, decide_false, Bool.not_true, Bool.not_false, b_isi (i_int t), b_isi (i_bool t), e, e2, Bool.or_true, Bool.or_false, Bool.true_or]
/-- a name, told by computing -/
def nmB (k : List Nat) : Bool := decide (1 ≤ k.length) && decide (k.length ≤ 8) && k.all fun c => decide (c ∈ al)
def nmV : CV → Bool
  | .str k => nmB k | _ => false
theorem nmB_iff (k : List Nat) : nmB k = true ↔ Nm k := by
  unfold nmB Nm
  simp only [Bool.and_eq_true, decide_eq_true_eq, List.all_eq_true, and_assoc]
theorem run_isname (F : Fns) (W : Nat) {h : CH} {v : CV} (t : Typ h v) (hl : ∀ k, v = .str k → k.length ≤ 1000) : ∃ h', runC F W n1.length b1 [v] h = some (.bl (nmV v), h') ∧ Off [] h h' := by
  cases e : isStr v with
  | false =>
    have : nmV v = false := by cases v <;> first | rfl | cases e
    refine ⟨h, ?_, .refl _ _⟩
    simp only [b1, n1, run_eq, List.length_cons, List.length_nil, List.map_cons, List.map_nil, List.cons_append, List.nil_append, List.replicate, List.set_cons_zero, List.set_cons_succ, x_cons, x_nil, seqC_nx, seqC_rt, x_asg, asgK_nm, asgK_sub, retS_some, retH_some, sub1_eq, sub2_eq, x_expr, exK_eq, x_ret, retK_eq, x_retn, x_iff, iffK_t, iffK_f, x_fo, x_pas, x_par, runK_nx, runK_rt, bindE_some, bindL_some, bindO_some, bindI_some, bindB_some, liftB_some, retV_some, asB_bl, bin1_eq, e_bin, cmpK_eq, cmp1_eq, e_cmp, cmpR_t, cmpR_f, cmp2a_eq, e_cmp2, cmpR3_t, cmpR3_f, cmp3a_eq, e_cmp3, e_and, e_or, andK_t, andK_f, orK_t, orK_f, bOut_eq, notK_eq, e_not, negK_int, e_neg, iteK_t, iteK_f, e_ite, tupK2_eq, e_tup, lstK_eq, e_lst, e_dct0, ixK_eq, ix1_eq, e_ix, sl1_eq, sl2_eq, e_sl, e_rev, o_no, o_ex, oK_int, e_call, e_bi, e_me, s_nil, s_cons, consA_eq, consB_eq, e_lit, e_glob, e_var0, e_varS, e_comp, i_range1, i_range2, r2a_eq, i_val, vK_tup, vK_str, t_lit, t_cmp, t_cmp2, t_cmp3, t_call, t_bi, t_var, t_and, t_or, t_not, andT_t, andT_f, orT_t, orT_f, notT_eq, v_add, v_sub, c_lt, c_le, c_gt, c_ge, c_eqI, c_neI, c_eqS, c_neS, c_isN, c_isnotN, c_isB, c_isnotB, x_tup, x_lstV, sl_lstV, sl_tup, b_lenT, b_lenV, decide_true, decide_false, Bool.not_true, Bool.not_false, b_isi (i_str t), e, this]
  | true =>
    obtain ⟨k, rfl⟩ : ∃ k, v = .str k := by cases v <;> first | exact ⟨_, rfl⟩ | cases e
    have hk := hl k rfl
    have hkl : k.length ≤ lim := lim_big (by omega)
    have c1 : cmpV .le (.int 1) (.int (k.length : Int)) h = some (decide ((1 : Int) ≤ k.length)) := rfl
    have c2 : cmpV .le (.int (k.length : Int)) (.int 8) h = some (decide ((k.length : Int) ≤ 8)) := rfl
    by_cases h1 : (1 : Int) ≤ k.length
    · by_cases h2 : (k.length : Int) ≤ 8
      · have d1 : decide (1 ≤ k.length) = true := decide_eq_true (by omega)
        have d2 : decide (k.length ≤ 8) = true := decide_eq_true (by omega)
        have ec := comp_all (F := F) (s := [some (.str k), none]) (h := h) (elt := .cmp .isin (.var 1) (.glob "SMALL" (.str al))) (i := 1) (src := .str k) (xs := k.map fun c => CV.str [c])
          (fun x => match x with | .str [c] => .bl (decide (c ∈ al)) | x => x) (fun i => src_str) src_strL (by rw [List.length_map]; exact hkl) (fun x hx => by
            obtain ⟨c, hc, rfl⟩ := List.mem_map.mp hx
            simp only [run_eq, List.length_cons, List.length_nil, List.map_cons, List.map_nil, List.cons_append, List.nil_append, List.replicate, List.set_cons_zero, List.set_cons_succ, x_cons, x_nil, seqC_nx, seqC_rt, x_asg, asgK_nm, asgK_sub, retS_some, retH_some, sub1_eq, sub2_eq, x_expr, exK_eq, x_ret, retK_eq, x_retn, x_iff, iffK_t, iffK_f, x_fo, x_pas, x_par, runK_nx, runK_rt, bindE_some, bindL_some, bindO_some, bindI_some, bindB_some, liftB_some, retV_some, asB_bl, bin1_eq, e_bin, cmpK_eq, cmp1_eq, e_cmp, cmpR_t, cmpR_f, cmp2a_eq, e_cmp2, cmpR3_t, cmpR3_f, cmp3a_eq, e_cmp3, e_and, e_or, andK_t, andK_f, orK_t, orK_f, bOut_eq, notK_eq, e_not, negK_int, e_neg, iteK_t, iteK_f, e_ite, tupK2_eq, e_tup, lstK_eq, e_lst, e_dct0, ixK_eq, ix1_eq, e_ix, sl1_eq, sl2_eq, e_sl, e_rev, o_no, o_ex, oK_int, e_call, e_bi, e_me, s_nil, s_cons, consA_eq, consB_eq, e_lit, e_glob, e_var0, e_varS, e_comp, i_range1, i_range2, r2a_eq, i_val, vK_tup, vK_str, t_lit, t_cmp, t_cmp2, t_cmp3, t_call, t_bi, t_var, t_and, t_or, t_not, andT_t, andT_f, orT_t, orT_f, notT_eq, v_add, v_sub, c_lt, c_le, c_gt, c_ge, c_eqI, c_neI, c_eqS, c_neS, c_isN, c_isnotN, c_isB, c_isnotB, x_tup, x_lstV, sl_lstV, sl_tup, b_lenT, b_lenV, decide_true, decide_false, Bool.not_true, Bool.not_false, c_in (in_sign (h := h) (c := c) (t := al))])
        rw [List.map_map] at ec
        have em : k.map ((fun x => match x with | CV.str [c] => CV.bl (decide (c ∈ al)) | x => x) ∘ fun c => CV.str [c]) = (k.map fun c => decide (c ∈ al)).map CV.bl := by rw [List.map_map]; rfl
        rw [em] at ec
        have ea := b_all (get_new (h := h) (o := CO.lst ((k.map fun c => decide (c ∈ al)).map CV.bl)))
        have en : nmV (.str k) = (k.map fun c => decide (c ∈ al)).all id := by
          show nmB k = _
          unfold nmB
          rw [d1, d2, List.all_map]
          rfl
        refine ⟨h ++ [CO.lst ((k.map fun c => decide (c ∈ al)).map CV.bl)], ?_, Off.app [] h _⟩
        · rw [en]
          unfold al at ec ea ⊢
          simp only [b1, n1, run_eq, List.length_cons, List.length_nil, List.map_cons, List.map_nil, List.cons_append, List.nil_append, List.replicate, List.set_cons_zero, List.set_cons_succ, x_cons, x_nil, seqC_nx, seqC_rt, x_asg, asgK_nm, asgK_sub, retS_some, retH_some, sub1_eq, sub2_eq, x_expr, exK_eq, x_ret, retK_eq, x_retn, x_iff, iffK_t, iffK_f, x_fo, x_pas, x_par, runK_nx, runK_rt, bindE_some, bindL_some, bindO_some, bindI_some, bindB_some, liftB_some, retV_some, asB_bl, bin1_eq, e_bin, cmpK_eq, cmp1_eq, e_cmp, cmpR_t, cmpR_f, cmp2a_eq, e_cmp2, cmpR3_t, cmpR3_f, cmp3a_eq, e_cmp3, e_and, e_or, andK_t, andK_f, orK_t, orK_f, bOut_eq, notK_eq, e_not, negK_int, e_neg, iteK_t, iteK_f, e_ite, tupK2_eq, e_tup, lstK_eq, e_lst, e_dct0, ixK_eq, ix1_eq, e_ix, sl1_eq, sl2_eq, e_sl, e_rev, o_no, o_ex, oK_int, e_call, e_bi, e_me, s_nil, s_cons, consA_eq, consB_eq, e_lit, e_glob, e_var0, e_varS, e_comp, i_range1, i_range2, r2a_eq, i_val, vK_tup, vK_str, t_lit, t_cmp, t_cmp2, t_cmp3, t_call, t_bi, t_var, t_and, t_or, t_not, andT_t, andT_f, orT_t, orT_f, notT_eq, v_add, v_sub, c_lt, c_le, c_gt, c_ge, c_eqI, c_neI, c_eqS, c_neS, c_isN, c_isnotN, c_isB, c_isnotB, x_tup, x_lstV, sl_lstV, sl_tup, b_lenT, b_lenV, decide_true, decide_false, Bool.not_true, Bool.not_false, b_isi (i_str t), e, b_lenS hkl, cmp2b_eq c1, cmp2b_eq c2, h1, h2, ec, ea]
      · have en : nmV (.str k) = false := by
          show nmB k = false
          unfold nmB
          rw [decide_eq_false (show ¬ k.length ≤ 8 by omega), Bool.and_false, Bool.false_and]
        refine ⟨h, ?_, .refl _ _⟩
        simp only [b1, n1, run_eq, List.length_cons, List.length_nil, List.map_cons, List.map_nil, List.cons_append, List.nil_append, List.replicate, List.set_cons_zero, List.set_cons_succ, x_cons, x_nil, seqC_nx, seqC_rt, x_asg, asgK_nm, asgK_sub, retS_some, retH_some, sub1_eq, sub2_eq, x_expr, exK_eq, x_ret, retK_eq, x_retn, x_iff, iffK_t, iffK_f, x_fo, x_pas, x_par, runK_nx, runK_rt, bindE_some, bindL_some, bindO_some, bindI_some, bindB_some, liftB_some, retV_some, asB_bl, bin1_eq, e_bin, cmpK_eq, cmp1_eq, e_cmp, cmpR_t, cmpR_f, cmp2a_eq, e_cmp2, cmpR3_t, cmpR3_f, cmp3a_eq, e_cmp3, e_and, e_or, andK_t, andK_f, orK_t, orK_f, bOut_eq, notK_eq, e_not, negK_int, e_neg, iteK_t, iteK_f, e_ite, tupK2_eq, e_tup, lstK_eq, e_lst, e_dct0, ixK_eq, ix1_eq, e_ix, sl1_eq, sl2_eq, e_sl, e_rev, o_no, o_ex, oK_int, e_call, e_bi, e_me, s_nil, s_cons, consA_eq, consB_eq, e_lit, e_glob, e_var0, e_varS, e_comp, i_range1, i_range2, r2a_eq, i_val, vK_tup, vK_str, t_lit, t_cmp, t_cmp2, t_cmp3, t_call, t_bi, t_var, t_and, t_or, t_not, andT_t, andT_f, orT_t, orT_f, notT_eq, v_add, v_sub, c_lt, c_le, c_gt, c_ge, c_eqI, c_neI, c_eqS, c_neS, c_isN, c_isnotN, c_isB, c_isnotB, x_tup, x_lstV, sl_lstV, sl_tup, b_lenT, b_lenV, decide_true, decide_false, Bool.not_true, Bool.not_false, b_isi (i_str t), e, b_lenS hkl, cmp2b_eq c1, h1, h2, en]
    · have en : nmV (.str k) = false := by
        show nmB k = false
        unfold nmB
        rw [decide_eq_false (show ¬ 1 ≤ k.length by omega), Bool.false_and, Bool.false_and]
      refine ⟨h, ?_, .refl _ _⟩
      simp only [b1, n1, run_eq, List.length_cons, List.length_nil, List.map_cons, List.map_nil, List.cons_append, List.nil_append, List.replicate, List.set_cons_zero, List.set_cons_succ, x_cons, x_nil, seqC_nx, seqC_rt, x_asg, asgK_nm, asgK_sub, retS_some, retH_some, sub1_eq, sub2_eq, x_expr, exK_eq, x_ret, retK_eq, x_retn, x_iff, iffK_t, iffK_f, x_fo, x_pas, x_par, runK_nx, runK_rt, bindE_some, bindL_some, bindO_some, bindI_some, bindB_some, liftB_some, retV_some, asB_bl, bin1_eq, e_bin, cmpK_eq, cmp1_eq, e_cmp, cmpR_t, cmpR_f, cmp2a_eq, e_cmp2, cmpR3_t, cmpR3_f, cmp3a_eq, e_cmp3, e_and, e_or, andK_t, andK_f, orK_t, orK_f, bOut_eq, notK_eq, e_not, negK_int, e_neg, iteK_t, iteK_f, e_ite, tupK2_eq, e_tup, lstK_eq, e_lst, e_dct0, ixK_eq, ix1_eq, e_ix, sl1_eq, sl2_eq, e_sl, e_rev, o_no, o_ex, oK_int, e_call, e_bi, e_me, s_nil, s_cons, consA_eq, consB_eq, e_lit, e_glob, e_var0, e_varS, e_comp, i_range1, i_range2, r2a_eq, i_val, vK_tup, vK_str, t_lit, t_cmp, t_cmp2, t_cmp3, t_call, t_bi, t_var, t_and, t_or, t_not, andT_t, andT_f, orT_t, orT_f, notT_eq, v_add, v_sub, c_lt, c_le, c_gt, c_ge, c_eqI, c_neI, c_eqS, c_neS, c_isN, c_isnotN, c_isB, c_isnotB, x_tup, x_lstV, sl_lstV, sl_tup, b_lenT, b_lenV, decide_true, decide_false, Bool.not_true, Bool.not_false, b_isi (i_str t), e, b_lenS hkl, cmp2b_eq c1, h1, en]
/-- a comprehension whose items are bools, the heap growing -/
theorem comp_vals {F : Fns} {s : Env} {h : CH} {elt : CE} {i : Nat} {src : Src} {S : List Nat} {xs : List CV} (f : CV → CV) (hs : ∀ h', Off S h h' → ∀ i, src.item h' i = some xs[i]?) (hl : src.len h = xs.length) (hm : xs.length ≤ lim)
    (he : ∀ x ∈ xs, ∀ h', Off S h h' → ∃ h2, evalC F elt (s.set i (some x)) h' = some (f x, h2) ∧ Off S h' h2) : ∃ h', compK F elt (.lit (.bl true)) i s src h = some (.ref h'.length, h' ++ [.lst (xs.map f)]) ∧ Off S h h' := by
  obtain ⟨acc, h', e, ea, o⟩ := comp_each (F := F) (s := s) (h := h) (elt := elt) (i := i) (src := src) (fun j acc h' => acc = (xs.take j).map f ∧ Off S h h') (by rw [hl]; exact hm) ⟨rfl, .refl _ _⟩
    (fun j acc h' hj hi => by
      obtain ⟨rfl, o⟩ := hi
      rw [hl] at hj
      obtain ⟨h2, e2, o2⟩ := he xs[j] (List.getElem_mem hj) h' o
      refine ⟨xs[j], f xs[j], h2, by rw [hs h' o, List.getElem?_eq_getElem hj], e2, ?_, o.trans o2⟩
      rw [List.take_add_one, List.getElem?_eq_getElem hj, List.map_append]
      rfl)
    (fun acc h' hi => by rw [hs h' hi.2, hl, List.getElem?_eq_none (Nat.le_refl _)])
  rw [hl, List.take_length] at ea
  subst ea
  exact ⟨h', e, o⟩
def kSend : List Nat := [115, 101, 110, 100]
def kTake : List Nat := [116, 97, 107, 101]
def kindV : CV → Bool
  | .str k => decide (k = kSend) || decide (k = kTake) | _ => false
/-- a deed -/
def deedV : CV → Bool
  | .tup [k, a, b, c] => nmV a && nmV b && nmV c && kindV k && decide (a ≠ b)
  | _ => false
def Part (h : CH) (x : CV) : Prop := Typ h x ∧ ∀ k, x = .str k → k.length ≤ 1000
theorem Part.off {h h' : CH} {v : CV} (t : Part h v) (o : Off [] h h') : Part h' v := ⟨t.1.off o, t.2⟩
theorem nmV_str {v : CV} (h : nmV v = true) : ∃ k, v = .str k ∧ Nm k := by
  cases v with
  | str k => exact ⟨k, rfl, (nmB_iff k).mp h⟩
  | _ => cases h
theorem run_isdeed (F : Fns) (W : Nat) (hF : ∀ (h : CH) (v : CV), Part h v → ∃ h', F 1 [v] h = some (.bl (nmV v), h') ∧ Off [] h h') {h : CH} {v : CV} (t : Typ h v) (hp : ∀ xs, v = .tup xs → xs.length = 4 → ∀ x ∈ xs, Part h x) :
    ∃ h', runC F W n2.length b2 [v] h = some (.bl (deedV v), h') ∧ Off [] h h' := by
  cases e : isTup v with
  | false =>
    have : deedV v = false := by cases v <;> first | rfl | cases e
    refine ⟨h, ?_, .refl _ _⟩
    simp only [b2, n2, run_eq, List.length_cons, List.length_nil, List.map_cons, List.map_nil, List.cons_append, List.nil_append, List.replicate, List.set_cons_zero, List.set_cons_succ, x_cons, x_nil, seqC_nx, seqC_rt, x_asg, asgK_nm, asgK_sub, retS_some, retH_some, sub1_eq, sub2_eq, x_expr, exK_eq, x_ret, retK_eq, x_retn, x_iff, iffK_t, iffK_f, x_fo, x_pas, x_par, runK_nx, runK_rt, bindE_some, bindL_some, bindO_some, bindI_some, bindB_some, liftB_some, retV_some, asB_bl, bin1_eq, e_bin, cmpK_eq, cmp1_eq, e_cmp, cmpR_t, cmpR_f, cmp2a_eq, e_cmp2, cmpR3_t, cmpR3_f, cmp3a_eq, e_cmp3, e_and, e_or, andK_t, andK_f, orK_t, orK_f, bOut_eq, notK_eq, e_not, negK_int, e_neg, iteK_t, iteK_f, e_ite, tupK2_eq, e_tup, lstK_eq, e_lst, e_dct0, ixK_eq, ix1_eq, e_ix, sl1_eq, sl2_eq, e_sl, e_rev, o_no, o_ex, oK_int, e_call, e_bi, e_me, s_nil, s_cons, consA_eq, consB_eq, e_lit, e_glob, e_var0, e_varS, e_comp, i_range1, i_range2, r2a_eq, i_val, vK_tup, vK_str, t_lit, t_cmp, t_cmp2, t_cmp3, t_call, t_bi, t_var, t_and, t_or, t_not, andT_t, andT_f, orT_t, orT_f, notT_eq, v_add, v_sub, c_lt, c_le, c_gt, c_ge, c_eqI, c_neI, c_eqS, c_neS, c_isN, c_isnotN, c_isB, c_isnotB, x_tup, x_lstV, sl_lstV, sl_tup, b_lenT, b_lenV, decide_true, decide_false, Bool.not_true, Bool.not_false, b_isi (i_tup t), e, this]
  | true =>
    obtain ⟨xs, rfl⟩ : ∃ xs, v = .tup xs := by cases v <;> first | exact ⟨_, rfl⟩ | cases e
    by_cases hl : xs.length = 4
    · obtain ⟨k, a, b, c, rfl⟩ : ∃ k a b c, xs = [k, a, b, c] := by
        match xs, hl with
        | [k, a, b, c], _ => exact ⟨k, a, b, c, rfl⟩
      have hp' := hp _ rfl hl
      have hc : cut [k, a, b, c] (some 1) none = [a, b, c] := cut_from [k, a, b, c] 1
      obtain ⟨h', ec, oc⟩ := comp_vals (F := F) (s := [some (.tup [k, a, b, c]), none]) (h := h) (elt := .call 1 (.cons (.var 1) .nil)) (i := 1) (src := .tup [a, b, c]) (S := []) (xs := [a, b, c]) (fun x => .bl (nmV x)) (fun h' _ i => src_tup) src_tupL (lim_big (by simp))
        (fun x hx h' o => by
          obtain ⟨h2, e2, o2⟩ := hF h' x ((hp' x (List.mem_cons_of_mem _ hx)).off o)
          exact ⟨h2, by simp only [run_eq, List.length_cons, List.length_nil, List.map_cons, List.map_nil, List.cons_append, List.nil_append, List.replicate, List.set_cons_zero, List.set_cons_succ, x_cons, x_nil, seqC_nx, seqC_rt, x_asg, asgK_nm, asgK_sub, retS_some, retH_some, sub1_eq, sub2_eq, x_expr, exK_eq, x_ret, retK_eq, x_retn, x_iff, iffK_t, iffK_f, x_fo, x_pas, x_par, runK_nx, runK_rt, bindE_some, bindL_some, bindO_some, bindI_some, bindB_some, liftB_some, retV_some, asB_bl, bin1_eq, e_bin, cmpK_eq, cmp1_eq, e_cmp, cmpR_t, cmpR_f, cmp2a_eq, e_cmp2, cmpR3_t, cmpR3_f, cmp3a_eq, e_cmp3, e_and, e_or, andK_t, andK_f, orK_t, orK_f, bOut_eq, notK_eq, e_not, negK_int, e_neg, iteK_t, iteK_f, e_ite, tupK2_eq, e_tup, lstK_eq, e_lst, e_dct0, ixK_eq, ix1_eq, e_ix, sl1_eq, sl2_eq, e_sl, e_rev, o_no, o_ex, oK_int, e_call, e_bi, e_me, s_nil, s_cons, consA_eq, consB_eq, e_lit, e_glob, e_var0, e_varS, e_comp, i_range1, i_range2, r2a_eq, i_val, vK_tup, vK_str, t_lit, t_cmp, t_cmp2, t_cmp3, t_call, t_bi, t_var, t_and, t_or, t_not, andT_t, andT_f, orT_t, orT_f, notT_eq, v_add, v_sub, c_lt, c_le, c_gt, c_ge, c_eqI, c_neI, c_eqS, c_neS, c_isN, c_isnotN, c_isB, c_isnotB, x_tup, x_lstV, sl_lstV, sl_tup, b_lenT, b_lenV, decide_true, decide_false, Bool.not_true, Bool.not_false, e2], o2⟩)
      have ea := b_all (h := h' ++ [CO.lst ([a, b, c].map fun x => CV.bl (nmV x))]) (r := h'.length) (bs := [nmV a, nmV b, nmV c]) get_new
      have o' : Off [] h (h' ++ [CO.lst ([a, b, c].map fun x => CV.bl (nmV x))]) := oc.trans (Off.app _ _ _)
      have x0 : ∀ h, ixV (.tup [k, a, b, c]) (.int 0) h = some k := fun _ => rfl
      have x1 : ∀ h, ixV (.tup [k, a, b, c]) (.int 1) h = some a := fun _ => rfl
      have x2 : ∀ h, ixV (.tup [k, a, b, c]) (.int 2) h = some b := fun _ => rfl
      have tk := (hp' k List.mem_cons_self).1.off o'
      simp only [List.map_cons, List.map_nil] at ec ea o' tk
      generalize hh : h' ++ [CO.lst [CV.bl (nmV a), CV.bl (nmV b), CV.bl (nmV c)]] = hz at ec ea o' tk
      have l4 : decide (((0 + 1 + 1 + 1 + 1 : Nat) : Int) = 4) = true := rfl
      by_cases hall : [nmV a, nmV b, nmV c].all id = true
      · rw [hall] at ea
        have hn : nmV a = true ∧ nmV b = true ∧ nmV c = true := by
          simp only [List.all_cons, List.all_nil, Bool.and_true, Bool.and_eq_true, id] at hall
          exact hall
        obtain ⟨ka, rfl, _⟩ := nmV_str hn.1
        obtain ⟨kb, rfl, _⟩ := nmV_str hn.2.1
        cases ek : isStr k with
        | false =>
          have ed : deedV (.tup [k, .str ka, .str kb, c]) = false := by
            have : kindV k = false := by cases k <;> first | rfl | cases ek
            simp only [deedV, this, Bool.and_false, Bool.false_and]
          refine ⟨hz, ?_, o'⟩
          rw [ed]
          simp only [b2, n2, run_eq, List.length_cons, List.length_nil, List.map_cons, List.map_nil, List.cons_append, List.nil_append, List.replicate, List.set_cons_zero, List.set_cons_succ, x_cons, x_nil, seqC_nx, seqC_rt, x_asg, asgK_nm, asgK_sub, retS_some, retH_some, sub1_eq, sub2_eq, x_expr, exK_eq, x_ret, retK_eq, x_retn, x_iff, iffK_t, iffK_f, x_fo, x_pas, x_par, runK_nx, runK_rt, bindE_some, bindL_some, bindO_some, bindI_some, bindB_some, liftB_some, retV_some, asB_bl, bin1_eq, e_bin, cmpK_eq, cmp1_eq, e_cmp, cmpR_t, cmpR_f, cmp2a_eq, e_cmp2, cmpR3_t, cmpR3_f, cmp3a_eq, e_cmp3, e_and, e_or, andK_t, andK_f, orK_t, orK_f, bOut_eq, notK_eq, e_not, negK_int, e_neg, iteK_t, iteK_f, e_ite, tupK2_eq, e_tup, lstK_eq, e_lst, e_dct0, ixK_eq, ix1_eq, e_ix, sl1_eq, sl2_eq, e_sl, e_rev, o_no, o_ex, oK_int, e_call, e_bi, e_me, s_nil, s_cons, consA_eq, consB_eq, e_lit, e_glob, e_var0, e_varS, e_comp, i_range1, i_range2, r2a_eq, i_val, vK_tup, vK_str, t_lit, t_cmp, t_cmp2, t_cmp3, t_call, t_bi, t_var, t_and, t_or, t_not, andT_t, andT_f, orT_t, orT_f, notT_eq, v_add, v_sub, c_lt, c_le, c_gt, c_ge, c_eqI, c_neI, c_eqS, c_neS, c_isN, c_isnotN, c_isB, c_isnotB, x_tup, x_lstV, sl_lstV, sl_tup, b_lenT, b_lenV, decide_true, decide_false, Bool.not_true, Bool.not_false, b_isi (i_tup t), isTup, l4, hc, ec, ea, x0, b_isi (i_str tk), ek]
        | true =>
          obtain ⟨kk, rfl⟩ : ∃ kk, k = .str kk := by cases k <;> first | exact ⟨_, rfl⟩ | cases ek
          have ein : inV hz (.str kk) (.tup [.str kSend, .str kTake]) = some (decide (kk ∈ [kSend, kTake])) := in_strsT (ks := [kSend, kTake])
          have ed : deedV (.tup [.str kk, .str ka, .str kb, c]) = (decide (kk ∈ [kSend, kTake]) && !decide (ka = kb)) := by
            simp only [deedV, hn.1, hn.2.1, hn.2.2, Bool.true_and, kindV]
            congr 1
            · by_cases h1 : kk = kSend <;> by_cases h2 : kk = kTake <;> simp [h1, h2]
            · by_cases h1 : ka = kb <;> simp [h1]
          refine ⟨hz, ?_, o'⟩
          rw [ed]
          unfold kSend kTake at ein ⊢
          cases hd : decide (kk ∈ [[115, 101, 110, 100], [116, 97, 107, 101]]) with
          | false =>
            rw [hd] at ein
            simp only [b2, n2, run_eq, List.length_cons, List.length_nil, List.map_cons, List.map_nil, List.cons_append, List.nil_append, List.replicate, List.set_cons_zero, List.set_cons_succ, x_cons, x_nil, seqC_nx, seqC_rt, x_asg, asgK_nm, asgK_sub, retS_some, retH_some, sub1_eq, sub2_eq, x_expr, exK_eq, x_ret, retK_eq, x_retn, x_iff, iffK_t, iffK_f, x_fo, x_pas, x_par, runK_nx, runK_rt, bindE_some, bindL_some, bindO_some, bindI_some, bindB_some, liftB_some, retV_some, asB_bl, bin1_eq, e_bin, cmpK_eq, cmp1_eq, e_cmp, cmpR_t, cmpR_f, cmp2a_eq, e_cmp2, cmpR3_t, cmpR3_f, cmp3a_eq, e_cmp3, e_and, e_or, andK_t, andK_f, orK_t, orK_f, bOut_eq, notK_eq, e_not, negK_int, e_neg, iteK_t, iteK_f, e_ite, tupK2_eq, e_tup, lstK_eq, e_lst, e_dct0, ixK_eq, ix1_eq, e_ix, sl1_eq, sl2_eq, e_sl, e_rev, o_no, o_ex, oK_int, e_call, e_bi, e_me, s_nil, s_cons, consA_eq, consB_eq, e_lit, e_glob, e_var0, e_varS, e_comp, i_range1, i_range2, r2a_eq, i_val, vK_tup, vK_str, t_lit, t_cmp, t_cmp2, t_cmp3, t_call, t_bi, t_var, t_and, t_or, t_not, andT_t, andT_f, orT_t, orT_f, notT_eq, v_add, v_sub, c_lt, c_le, c_gt, c_ge, c_eqI, c_neI, c_eqS, c_neS, c_isN, c_isnotN, c_isB, c_isnotB, x_tup, x_lstV, sl_lstV, sl_tup, b_lenT, b_lenV, decide_true, decide_false, Bool.not_true, Bool.not_false, b_isi (i_tup t), isTup, l4, hc, ec, ea, x0, b_isi (i_str tk), ek, c_in ein]
            rfl
          | true =>
            rw [hd] at ein
            simp only [b2, n2, run_eq, List.length_cons, List.length_nil, List.map_cons, List.map_nil, List.cons_append, List.nil_append, List.replicate, List.set_cons_zero, List.set_cons_succ, x_cons, x_nil, seqC_nx, seqC_rt, x_asg, asgK_nm, asgK_sub, retS_some, retH_some, sub1_eq, sub2_eq, x_expr, exK_eq, x_ret, retK_eq, x_retn, x_iff, iffK_t, iffK_f, x_fo, x_pas, x_par, runK_nx, runK_rt, bindE_some, bindL_some, bindO_some, bindI_some, bindB_some, liftB_some, retV_some, asB_bl, bin1_eq, e_bin, cmpK_eq, cmp1_eq, e_cmp, cmpR_t, cmpR_f, cmp2a_eq, e_cmp2, cmpR3_t, cmpR3_f, cmp3a_eq, e_cmp3, e_and, e_or, andK_t, andK_f, orK_t, orK_f, bOut_eq, notK_eq, e_not, negK_int, e_neg, iteK_t, iteK_f, e_ite, tupK2_eq, e_tup, lstK_eq, e_lst, e_dct0, ixK_eq, ix1_eq, e_ix, sl1_eq, sl2_eq, e_sl, e_rev, o_no, o_ex, oK_int, e_call, e_bi, e_me, s_nil, s_cons, consA_eq, consB_eq, e_lit, e_glob, e_var0, e_varS, e_comp, i_range1, i_range2, r2a_eq, i_val, vK_tup, vK_str, t_lit, t_cmp, t_cmp2, t_cmp3, t_call, t_bi, t_var, t_and, t_or, t_not, andT_t, andT_f, orT_t, orT_f, notT_eq, v_add, v_sub, c_lt, c_le, c_gt, c_ge, c_eqI, c_neI, c_eqS, c_neS, c_isN, c_isnotN, c_isB, c_isnotB, x_tup, x_lstV, sl_lstV, sl_tup, b_lenT, b_lenV, decide_true, decide_false, Bool.not_true, Bool.not_false, b_isi (i_tup t), isTup, l4, hc, ec, ea, x0, x1, x2, b_isi (i_str tk), ek, c_in ein]
            rfl
      · have hall' : [nmV a, nmV b, nmV c].all id = false := by simpa using hall
        rw [hall'] at ea
        have ed : deedV (.tup [k, a, b, c]) = false := by
          have : (nmV a && nmV b && nmV c) = false := by
            simp only [List.all_cons, List.all_nil, Bool.and_true, id, ← Bool.and_assoc] at hall'
            exact hall'
          simp only [deedV, this, Bool.false_and]
        refine ⟨hz, ?_, o'⟩
        rw [ed]
        simp only [b2, n2, run_eq, List.length_cons, List.length_nil, List.map_cons, List.map_nil, List.cons_append, List.nil_append, List.replicate, List.set_cons_zero, List.set_cons_succ, x_cons, x_nil, seqC_nx, seqC_rt, x_asg, asgK_nm, asgK_sub, retS_some, retH_some, sub1_eq, sub2_eq, x_expr, exK_eq, x_ret, retK_eq, x_retn, x_iff, iffK_t, iffK_f, x_fo, x_pas, x_par, runK_nx, runK_rt, bindE_some, bindL_some, bindO_some, bindI_some, bindB_some, liftB_some, retV_some, asB_bl, bin1_eq, e_bin, cmpK_eq, cmp1_eq, e_cmp, cmpR_t, cmpR_f, cmp2a_eq, e_cmp2, cmpR3_t, cmpR3_f, cmp3a_eq, e_cmp3, e_and, e_or, andK_t, andK_f, orK_t, orK_f, bOut_eq, notK_eq, e_not, negK_int, e_neg, iteK_t, iteK_f, e_ite, tupK2_eq, e_tup, lstK_eq, e_lst, e_dct0, ixK_eq, ix1_eq, e_ix, sl1_eq, sl2_eq, e_sl, e_rev, o_no, o_ex, oK_int, e_call, e_bi, e_me, s_nil, s_cons, consA_eq, consB_eq, e_lit, e_glob, e_var0, e_varS, e_comp, i_range1, i_range2, r2a_eq, i_val, vK_tup, vK_str, t_lit, t_cmp, t_cmp2, t_cmp3, t_call, t_bi, t_var, t_and, t_or, t_not, andT_t, andT_f, orT_t, orT_f, notT_eq, v_add, v_sub, c_lt, c_le, c_gt, c_ge, c_eqI, c_neI, c_eqS, c_neS, c_isN, c_isnotN, c_isB, c_isnotB, x_tup, x_lstV, sl_lstV, sl_tup, b_lenT, b_lenV, decide_true, decide_false, Bool.not_true, Bool.not_false, b_isi (i_tup t), isTup, l4, hc, ec, ea]
    · have ed : deedV (.tup xs) = false := by
        match xs, hl with
        | [], _ => rfl
        | [_], _ => rfl
        | [_, _], _ => rfl
        | [_, _, _], _ => rfl
        | [_, _, _, _], hl => exact absurd rfl hl
        | _ :: _ :: _ :: _ :: _ :: _, _ => rfl
      have hn : decide ((xs.length : Int) = 4) = false := decide_eq_false (by omega)
      refine ⟨h, ?_, .refl _ _⟩
      rw [ed]
      simp only [b2, n2, run_eq, List.length_cons, List.length_nil, List.map_cons, List.map_nil, List.cons_append, List.nil_append, List.replicate, List.set_cons_zero, List.set_cons_succ, x_cons, x_nil, seqC_nx, seqC_rt, x_asg, asgK_nm, asgK_sub, retS_some, retH_some, sub1_eq, sub2_eq, x_expr, exK_eq, x_ret, retK_eq, x_retn, x_iff, iffK_t, iffK_f, x_fo, x_pas, x_par, runK_nx, runK_rt, bindE_some, bindL_some, bindO_some, bindI_some, bindB_some, liftB_some, retV_some, asB_bl, bin1_eq, e_bin, cmpK_eq, cmp1_eq, e_cmp, cmpR_t, cmpR_f, cmp2a_eq, e_cmp2, cmpR3_t, cmpR3_f, cmp3a_eq, e_cmp3, e_and, e_or, andK_t, andK_f, orK_t, orK_f, bOut_eq, notK_eq, e_not, negK_int, e_neg, iteK_t, iteK_f, e_ite, tupK2_eq, e_tup, lstK_eq, e_lst, e_dct0, ixK_eq, ix1_eq, e_ix, sl1_eq, sl2_eq, e_sl, e_rev, o_no, o_ex, oK_int, e_call, e_bi, e_me, s_nil, s_cons, consA_eq, consB_eq, e_lit, e_glob, e_var0, e_varS, e_comp, i_range1, i_range2, r2a_eq, i_val, vK_tup, vK_str, t_lit, t_cmp, t_cmp2, t_cmp3, t_call, t_bi, t_var, t_and, t_or, t_not, andT_t, andT_f, orT_t, orT_f, notT_eq, v_add, v_sub, c_lt, c_le, c_gt, c_ge, c_eqI, c_neI, c_eqS, c_neS, c_isN, c_isnotN, c_isB, c_isnotB, x_tup, x_lstV, sl_lstV, sl_tup, b_lenT, b_lenV, decide_true, decide_false, Bool.not_true, Bool.not_false, b_isi (i_tup t), isTup, hn]
end TH

namespace TH
open PySem
/-- what may be told -/
def TD (h : CH) (v : CV) : Prop := Part h v ∧ ∀ xs, v = .tup xs → xs.length = 4 → ∀ x ∈ xs, Part h x
theorem TD.off {h h' : CH} {v : CV} (t : TD h v) (o : Off [] h h') : TD h' v := ⟨t.1.off o, fun xs e l x hx => (t.2 xs e l x hx).off o⟩
/-- neither a whole number nor a name nor a deed -/
def Odd (h : CH) (x : CV) : Prop := TD h x ∧ isInt x = false ∧ nmV x = false ∧ deedV x = false
theorem Odd.off {h h' : CH} {v : CV} (t : Odd h v) (o : Off [] h h') : Odd h' v := ⟨t.1.off o, t.2⟩
/-- what is no deed -/
def ND (h : CH) (x : CV) : Prop := TD h x ∧ deedV x = false
theorem ND.off {h h' : CH} {v : CV} (t : ND h v) (o : Off [] h h') : ND h' v := ⟨t.1.off o, t.2⟩
theorem part_str {h : CH} {k : List Nat} (hl : k.length ≤ 1000) : Part h (.str k) := ⟨trivial, fun _ e => by cases e; exact hl⟩
theorem td4 {h : CH} {a b c d : CV} (ha : Part h a) (hb : Part h b) (hc : Part h c) (hd : Part h d) : TD h (.tup [a, b, c, d]) := ⟨⟨trivial, fun _ e => by cases e⟩, fun xs e _ x hx => by
  cases e
  simp only [List.mem_cons, List.not_mem_nil, or_false] at hx
  rcases hx with rfl | rfl | rfl | rfl <;> assumption⟩
end TH

namespace TH
open PySem
/-! ### rows -/
def rowV : CV → Bool
  | .tup xs => xs.all deedV
  | _ => false
theorem run_isrow (F : Fns) (W : Nat) (hF : ∀ (h : CH) (v : CV), TD h v → ∃ h', F 2 [v] h = some (.bl (deedV v), h') ∧ Off [] h h') {h : CH} {v : CV} (t : Typ h v) (hp : ∀ xs, v = .tup xs → xs.length ≤ 1000 ∧ ∀ x ∈ xs, TD h x) :
    ∃ h', runC F W n12.length b12 [v] h = some (.bl (rowV v), h') ∧ Off [] h h' := by
  cases e : isTup v with
  | false =>
    have : rowV v = false := by cases v <;> first | rfl | cases e
    refine ⟨h, ?_, .refl _ _⟩
    simp only [b12, n12, run_eq, List.length_cons, List.length_nil, List.map_cons, List.map_nil, List.cons_append, List.nil_append, List.replicate, List.set_cons_zero, List.set_cons_succ, x_cons, x_nil, seqC_nx, seqC_rt, x_asg, asgK_nm, asgK_sub, retS_some, retH_some, sub1_eq, sub2_eq, x_expr, exK_eq, x_ret, retK_eq, x_retn, x_iff, iffK_t, iffK_f, x_fo, x_pas, x_par, runK_nx, runK_rt, bindE_some, bindL_some, bindO_some, bindI_some, bindB_some, liftB_some, retV_some, asB_bl, bin1_eq, e_bin, cmpK_eq, cmp1_eq, e_cmp, cmpR_t, cmpR_f, cmp2a_eq, e_cmp2, cmpR3_t, cmpR3_f, cmp3a_eq, e_cmp3, e_and, e_or, andK_t, andK_f, orK_t, orK_f, bOut_eq, notK_eq, e_not, negK_int, e_neg, iteK_t, iteK_f, e_ite, tupK2_eq, e_tup, lstK_eq, e_lst, e_dct0, ixK_eq, ix1_eq, e_ix, sl1_eq, sl2_eq, e_sl, e_rev, o_no, o_ex, oK_int, e_call, e_bi, e_me, s_nil, s_cons, consA_eq, consB_eq, e_lit, e_glob, e_var0, e_varS, e_comp, i_range1, i_range2, r2a_eq, i_val, vK_tup, vK_str, t_lit, t_cmp, t_cmp2, t_cmp3, t_call, t_bi, t_var, t_and, t_or, t_not, andT_t, andT_f, orT_t, orT_f, notT_eq, v_add, v_sub, c_lt, c_le, c_gt, c_ge, c_eqI, c_neI, c_eqS, c_neS, c_isN, c_isnotN, c_isB, c_isnotB, x_tup, x_lstV, sl_lstV, sl_tup, b_lenT, b_lenV, decide_true, decide_false, Bool.not_true, Bool.not_false, b_isi (i_tup t), e, this]
  | true =>
    obtain ⟨xs, rfl⟩ : ∃ xs, v = .tup xs := by cases v <;> first | exact ⟨_, rfl⟩ | cases e
    obtain ⟨hl, hx⟩ := hp xs rfl
    obtain ⟨h', ec, oc⟩ := comp_vals (F := F) (s := [some (.tup xs), none]) (h := h) (elt := .call 2 (.cons (.var 1) .nil)) (i := 1) (src := .tup xs) (S := []) (xs := xs) (fun x => .bl (deedV x)) (fun h' _ i => src_tup) src_tupL (lim_big (by omega))
      (fun x hx' h' o => by
        obtain ⟨h2, e2, o2⟩ := hF h' x ((hx x hx').off o)
        exact ⟨h2, by simp only [run_eq, List.length_cons, List.length_nil, List.map_cons, List.map_nil, List.cons_append, List.nil_append, List.replicate, List.set_cons_zero, List.set_cons_succ, x_cons, x_nil, seqC_nx, seqC_rt, x_asg, asgK_nm, asgK_sub, retS_some, retH_some, sub1_eq, sub2_eq, x_expr, exK_eq, x_ret, retK_eq, x_retn, x_iff, iffK_t, iffK_f, x_fo, x_pas, x_par, runK_nx, runK_rt, bindE_some, bindL_some, bindO_some, bindI_some, bindB_some, liftB_some, retV_some, asB_bl, bin1_eq, e_bin, cmpK_eq, cmp1_eq, e_cmp, cmpR_t, cmpR_f, cmp2a_eq, e_cmp2, cmpR3_t, cmpR3_f, cmp3a_eq, e_cmp3, e_and, e_or, andK_t, andK_f, orK_t, orK_f, bOut_eq, notK_eq, e_not, negK_int, e_neg, iteK_t, iteK_f, e_ite, tupK2_eq, e_tup, lstK_eq, e_lst, e_dct0, ixK_eq, ix1_eq, e_ix, sl1_eq, sl2_eq, e_sl, e_rev, o_no, o_ex, oK_int, e_call, e_bi, e_me, s_nil, s_cons, consA_eq, consB_eq, e_lit, e_glob, e_var0, e_varS, e_comp, i_range1, i_range2, r2a_eq, i_val, vK_tup, vK_str, t_lit, t_cmp, t_cmp2, t_cmp3, t_call, t_bi, t_var, t_and, t_or, t_not, andT_t, andT_f, orT_t, orT_f, notT_eq, v_add, v_sub, c_lt, c_le, c_gt, c_ge, c_eqI, c_neI, c_eqS, c_neS, c_isN, c_isnotN, c_isB, c_isnotB, x_tup, x_lstV, sl_lstV, sl_tup, b_lenT, b_lenV, decide_true, decide_false, Bool.not_true, Bool.not_false, e2], o2⟩)
    have ey : xs.map (fun x => CV.bl (deedV x)) = (xs.map deedV).map CV.bl := by rw [List.map_map]; rfl
    rw [ey] at ec
    have ea := b_all (get_new (h := h') (o := CO.lst ((xs.map deedV).map CV.bl)))
    have en : rowV (.tup xs) = (xs.map deedV).all id := by
      show xs.all deedV = _
      rw [List.all_map]
      rfl
    refine ⟨h' ++ [CO.lst ((xs.map deedV).map CV.bl)], ?_, oc.trans (Off.app _ _ _)⟩
    rw [en]
    simp only [b12, n12, run_eq, List.length_cons, List.length_nil, List.map_cons, List.map_nil, List.cons_append, List.nil_append, List.replicate, List.set_cons_zero, List.set_cons_succ, x_cons, x_nil, seqC_nx, seqC_rt, x_asg, asgK_nm, asgK_sub, retS_some, retH_some, sub1_eq, sub2_eq, x_expr, exK_eq, x_ret, retK_eq, x_retn, x_iff, iffK_t, iffK_f, x_fo, x_pas, x_par, runK_nx, runK_rt, bindE_some, bindL_some, bindO_some, bindI_some, bindB_some, liftB_some, retV_some, asB_bl, bin1_eq, e_bin, cmpK_eq, cmp1_eq, e_cmp, cmpR_t, cmpR_f, cmp2a_eq, e_cmp2, cmpR3_t, cmpR3_f, cmp3a_eq, e_cmp3, e_and, e_or, andK_t, andK_f, orK_t, orK_f, bOut_eq, notK_eq, e_not, negK_int, e_neg, iteK_t, iteK_f, e_ite, tupK2_eq, e_tup, lstK_eq, e_lst, e_dct0, ixK_eq, ix1_eq, e_ix, sl1_eq, sl2_eq, e_sl, e_rev, o_no, o_ex, oK_int, e_call, e_bi, e_me, s_nil, s_cons, consA_eq, consB_eq, e_lit, e_glob, e_var0, e_varS, e_comp, i_range1, i_range2, r2a_eq, i_val, vK_tup, vK_str, t_lit, t_cmp, t_cmp2, t_cmp3, t_call, t_bi, t_var, t_and, t_or, t_not, andT_t, andT_f, orT_t, orT_f, notT_eq, v_add, v_sub, c_lt, c_le, c_gt, c_ge, c_eqI, c_neI, c_eqS, c_neS, c_isN, c_isnotN, c_isB, c_isnotB, x_tup, x_lstV, sl_lstV, sl_tup, b_lenT, b_lenV, decide_true, decide_false, Bool.not_true, Bool.not_false, b_isi (i_tup t), isTup, ec, ea]
/-! ### rows of any deeds -/
def Draws (F : Fns) : Prop := ∀ (h : CH) (p : Nat) (t : Int), Pool h p → 0 < t → t < 1073741824 → ∃ n h', F 5 [.ref p, .int t] h = some (.int n, h') ∧ 0 ≤ n ∧ n < t ∧ Off [p] h h' ∧ Pool h' p
/-- a deed of names -/
def DeedOf (x : CV) : Prop := ∃ k a b c, x = .tup [.str k, .str a, .str b, .str c] ∧ (k = kSend ∨ k = kTake) ∧ Nm a ∧ Nm b ∧ Nm c ∧ a ≠ b
def DeedIn (N : List (List Nat)) (x : CV) : Prop := ∃ k a b c, x = .tup [.str k, .str a, .str b, .str c] ∧ (k = kSend ∨ k = kTake) ∧ Nm a ∧ Nm b ∧ Nm c ∧ a ≠ b ∧ a ∈ N ∧ b ∈ N ∧ c ∈ N
theorem DeedIn.of {N : List (List Nat)} {x : CV} : DeedIn N x → DeedOf x := fun ⟨k, a, b, c, e, h1, h2, h3, h4, h5, _⟩ => ⟨k, a, b, c, e, h1, h2, h3, h4, h5⟩
theorem DeedOf.good {x : CV} (d : DeedOf x) : deedV x = true := by
  obtain ⟨k, a, b, c, rfl, hk, ha, hb, hc, hab⟩ := d
  have e1 := (nmB_iff a).mpr ha
  have e2 := (nmB_iff b).mpr hb
  have e3 := (nmB_iff c).mpr hc
  have e4 : kindV (.str k) = true := by rcases hk with rfl | rfl <;> decide
  have e5 : decide (CV.str a ≠ CV.str b) = true := decide_eq_true fun e => hab (by cases e; rfl)
  simp only [deedV, nmV, e1, e2, e3, e4, e5, Bool.and_self]
theorem DeedOf.td {x : CV} (d : DeedOf x) {h : CH} : TD h x := by
  obtain ⟨k, a, b, c, rfl, hk, ha, hb, hc, hab⟩ := d
  have hkl : k.length ≤ 8 := by rcases hk with rfl | rfl <;> decide
  exact td4 (part_str (by omega)) (part_str (by have := ha.2.1; omega)) (part_str (by have := hb.2.1; omega)) (part_str (by have := hc.2.1; omega))
theorem b_tupL {r : Nat} {xs : List CV} {h : CH} (e : h[r]? = some (.lst xs)) : biV .tuple [.ref r] h = some (.tup xs, h) := by simp only [biV, items, rdl_of e, Option.map_some]
/-- no row -/
def NR (h : CH) (v : CV) : Prop := (Typ h v ∧ ∀ xs, v = .tup xs → xs.length ≤ 1000 ∧ ∀ x ∈ xs, TD h x) ∧ rowV v = false
theorem NR.off {h h' : CH} {v : CV} (t : NR h v) (o : Off [] h h') : NR h' v := ⟨⟨t.1.1.off o, fun xs e => ⟨(t.1.2 xs e).1, fun x hx => ((t.1.2 xs e).2 x hx).off o⟩⟩, t.2⟩
theorem cut_mem {α : Type} {xs : List α} {lo hi : Option Int} {x : α} (h : x ∈ cut xs lo hi) : x ∈ xs := List.mem_of_mem_drop (List.mem_of_mem_take h)
end TH

namespace TH
open PySem
/-! ### rows as data -/
structure Dd where
  s : Bool
  a : List Nat
  b : List Nat
  c : List Nat
deriving DecidableEq
def kd (s : Bool) : List Nat := if s = true then kSend else kTake
def Dd.cv (d : Dd) : CV := .tup [.str (kd d.s), .str d.a, .str d.b, .str d.c]
def Dd.tk (d : Dd) : Dd := { d with s := false }
def Dd.ok (d : Dd) : Prop := Nm d.a ∧ Nm d.b ∧ Nm d.c ∧ d.a ≠ d.b
theorem kd_send {s : Bool} : decide (kd s = [115, 101, 110, 100]) = s := by cases s <;> decide
theorem Dd.pl (d : Dd) (n : Nat) : pl (n + 1) d.cv = true := by simp only [Dd.cv, TH.pl, TH.pls, Bool.and_self]
theorem Dd.of {x : CV} (h : DeedOf x) : ∃ d : Dd, x = d.cv ∧ d.ok := by
  obtain ⟨k, a, b, c, rfl, hk, ha, hb, hc, hab⟩ := h
  rcases hk with rfl | rfl
  · exact ⟨⟨true, a, b, c⟩, rfl, ha, hb, hc, hab⟩
  · exact ⟨⟨false, a, b, c⟩, rfl, ha, hb, hc, hab⟩
theorem Dd.deed {d : Dd} (h : d.ok) : DeedOf d.cv := ⟨kd d.s, d.a, d.b, d.c, rfl, by cases d.s <;> simp [kd], h.1, h.2.1, h.2.2.1, h.2.2.2⟩
/-! ### texts of rows -/
def Dd.one (d : Dd) : List Nat := if d.s = true then d.a ++ [33] ++ d.b ++ [58] ++ d.c else d.b ++ [63] ++ d.a ++ [58] ++ d.c
def Dd.two (d : Dd) : List Nat := d.a ++ [62] ++ d.b ++ [58] ++ d.c
def isBoth (d e : Dd) : Bool := d.s && decide (e = d.tk)
def parts : List Dd → List (List Nat)
  | d :: e :: r => if isBoth d e = true then d.two :: parts r else d.one :: parts (e :: r)
  | [d] => [d.one]
  | [] => []
theorem Dd.len {d : Dd} (h : d.ok) : d.a.length ≤ 8 ∧ d.b.length ≤ 8 ∧ d.c.length ≤ 8 := ⟨h.1.2.1, h.2.1.2.1, h.2.2.1.2.1⟩
section
variable (F : Fns) (W : Nat) {h : CH}
end
theorem at_row {ds : List Dd} {i : Nat} {d : Dd} (e : ds[i]? = some d) : atI (ds.map Dd.cv) (i : Int) = some d.cv := by
  rw [atI_nat, List.getElem?_map, e]; rfl
end TH

namespace TH
open PySem
theorem one_len {d : Dd} (h : d.ok) : d.one.length ≤ 26 := by
  obtain ⟨l1, l2, l3⟩ := d.len h
  unfold Dd.one
  split <;> simp <;> omega
theorem two_len {d : Dd} (h : d.ok) : d.two.length ≤ 26 := by
  obtain ⟨l1, l2, l3⟩ := d.len h
  unfold Dd.two
  simp; omega
theorem len_nat {a b : Nat} : decide ((a : Int) < (b : Int)) = decide (a < b) := decide_eq_decide.mpr (by omega)
end TH

namespace TH
open PySem
/-- what a part tells -/
def told (two : Bool) (d : Dd) : List Dd := if two = true then [d, d.tk] else [d]
end TH

namespace TH
open PySem
/-! ### parts and what they tell -/
abbrev Pq := Bool × Dd
def Pq.text (q : Pq) : List Nat := if q.1 = true then q.2.two else q.2.one
def Pq.rows (q : Pq) : List Dd := if q.1 = true then [q.2, q.2.tk] else [q.2]
def Pq.ok (q : Pq) : Prop := q.2.ok ∧ (q.1 = true → q.2.s = true)
theorem Pq.mem {q : Pq} (h : Pq.ok q) (c : Nat) : c ∈ Pq.text q → c ∈ al ∨ c = 33 ∨ c = 63 ∨ c = 62 ∨ c = 58 := by
  obtain ⟨⟨ha, hb, hc, hab⟩, _⟩ := h
  unfold Pq.text Dd.one Dd.two
  intro z
  have := ha.2.2 c
  have := hb.2.2 c
  have := hc.2.2 c
  split at z
  · simp at z; grind
  · split at z
    · simp at z; grind
    · simp at z; grind
theorem Pq.len {q : Pq} (h : Pq.ok q) : (Pq.text q).length ≤ 26 := by
  unfold Pq.text
  split
  · exact two_len h.1
  · exact one_len h.1
end TH

namespace TH
open PySem
end TH

namespace TH
open PySem
/-! ### packs of digits -/
def Pk (h : CH) (p : Nat) : Prop := ∃ a : Int, h[p]? = some (.lst [.int a]) ∧ 0 ≤ a
theorem Pk.keep {S : List Nat} {h h' : CH} {p : Nat} (q : Pk h p) (o : Off S h h') (n : p ∉ S) : Pk h' p := by
  obtain ⟨a, e, r⟩ := q
  exact ⟨a, o.get e n, r⟩
theorem Pk.lt {h : CH} {p : Nat} (q : Pk h p) : p < h.length := by
  obtain ⟨a, e, r⟩ := q
  exact lt_of e
theorem run_take (F : Fns) (W : Nat) {h : CH} {p : Nat} {t : Int} (q : Pk h p) (ht : 0 < t) (ht2 : t < 1073741824) : ∃ d h', runC F W n93.length b93 [.ref p, .int t] h = some (.int d, h') ∧ 0 ≤ d ∧ d < t ∧ Off [p] h h' ∧ Pk h' p := by
  obtain ⟨a, e, ha⟩ := q
  have ea := asgK_subnm (F := F) (h := h) (s := [some (.ref p), some (.int t), none]) (o := .var 0) (i := .lit (.int 0)) (n := 2) (y := .int (a / t)) (z := .int (a % t)) (by simp only [run_eq, List.length_cons, List.length_nil, List.map_cons, List.map_nil, List.cons_append, List.nil_append, List.replicate, List.set_cons_zero, List.set_cons_succ, x_cons, x_nil, seqC_nx, seqC_rt, x_asg, asgK_nm, asgK_sub, retS_some, retH_some, sub1_eq, sub2_eq, x_expr, exK_eq, x_ret, retK_eq, x_retn, x_iff, iffK_t, iffK_f, x_fo, x_pas, x_par, runK_nx, runK_rt, bindE_some, bindL_some, bindO_some, bindI_some, bindB_some, liftB_some, retV_some, asB_bl, bin1_eq, e_bin, cmpK_eq, cmp1_eq, e_cmp, cmpR_t, cmpR_f, cmp2a_eq, e_cmp2, cmpR3_t, cmpR3_f, cmp3a_eq, e_cmp3, e_and, e_or, andK_t, andK_f, orK_t, orK_f, bOut_eq, notK_eq, e_not, negK_int, e_neg, iteK_t, iteK_f, e_ite, tupK2_eq, e_tup, lstK_eq, e_lst, e_dct0, ixK_eq, ix1_eq, e_ix, sl1_eq, sl2_eq, e_sl, e_rev, o_no, o_ex, oK_int, e_call, e_bi, e_me, s_nil, s_cons, consA_eq, consB_eq, e_lit, e_glob, e_var0, e_varS, e_comp, i_range1, i_range2, r2a_eq, i_val, vK_tup, vK_str, t_lit, t_cmp, t_cmp2, t_cmp3, t_call, t_bi, t_var, t_and, t_or, t_not, andT_t, andT_f, orT_t, orT_f, notT_eq, v_add, v_sub, c_lt, c_le, c_gt, c_ge, c_eqI, c_neI, c_eqS, c_neS, c_isN, c_isnotN, c_isB, c_isnotB, x_tup, x_lstV, sl_lstV, sl_tup, b_lenT, b_lenV, decide_true, decide_false, Bool.not_true, Bool.not_false]) (by simp only [run_eq, List.length_cons, List.length_nil, List.map_cons, List.map_nil, List.cons_append, List.nil_append, List.replicate, List.set_cons_zero, List.set_cons_succ, x_cons, x_nil, seqC_nx, seqC_rt, x_asg, asgK_nm, asgK_sub, retS_some, retH_some, sub1_eq, sub2_eq, x_expr, exK_eq, x_ret, retK_eq, x_retn, x_iff, iffK_t, iffK_f, x_fo, x_pas, x_par, runK_nx, runK_rt, bindE_some, bindL_some, bindO_some, bindI_some, bindB_some, liftB_some, retV_some, asB_bl, bin1_eq, e_bin, cmpK_eq, cmp1_eq, e_cmp, cmpR_t, cmpR_f, cmp2a_eq, e_cmp2, cmpR3_t, cmpR3_f, cmp3a_eq, e_cmp3, e_and, e_or, andK_t, andK_f, orK_t, orK_f, bOut_eq, notK_eq, e_not, negK_int, e_neg, iteK_t, iteK_f, e_ite, tupK2_eq, e_tup, lstK_eq, e_lst, e_dct0, ixK_eq, ix1_eq, e_ix, sl1_eq, sl2_eq, e_sl, e_rev, o_no, o_ex, oK_int, e_call, e_bi, e_me, s_nil, s_cons, consA_eq, consB_eq, e_lit, e_glob, e_var0, e_varS, e_comp, i_range1, i_range2, r2a_eq, i_val, vK_tup, vK_str, t_lit, t_cmp, t_cmp2, t_cmp3, t_call, t_bi, t_var, t_and, t_or, t_not, andT_t, andT_f, orT_t, orT_f, notT_eq, v_add, v_sub, c_lt, c_le, c_gt, c_ge, c_eqI, c_neI, c_eqS, c_neS, c_isN, c_isnotN, c_isB, c_isnotB, x_tup, x_lstV, sl_lstV, sl_tup, b_lenT, b_lenV, decide_true, decide_false, Bool.not_true, Bool.not_false]) e (show ixN 1 0 = some 0 from rfl)
  refine ⟨a % t, h.set p (.lst [.int (a / t)]), ?_, Int.emod_nonneg _ (by omega), Int.emod_lt_of_pos _ ht, Off.set (by simp), a / t, List.getElem?_set_self (lt_of e), Int.ediv_nonneg ha (by omega)⟩
  simp only [b93, n93, run_eq, List.length_cons, List.length_nil, List.map_cons, List.map_nil, List.cons_append, List.nil_append, List.replicate, List.set_cons_zero, List.set_cons_succ, x_cons, x_nil, seqC_nx, seqC_rt, x_asg, asgK_nm, asgK_sub, retS_some, retH_some, sub1_eq, sub2_eq, x_expr, exK_eq, x_ret, retK_eq, x_retn, x_iff, iffK_t, iffK_f, x_fo, x_pas, x_par, runK_nx, runK_rt, bindE_some, bindL_some, bindO_some, bindI_some, bindB_some, liftB_some, retV_some, asB_bl, bin1_eq, e_bin, cmpK_eq, cmp1_eq, e_cmp, cmpR_t, cmpR_f, cmp2a_eq, e_cmp2, cmpR3_t, cmpR3_f, cmp3a_eq, e_cmp3, e_and, e_or, andK_t, andK_f, orK_t, orK_f, bOut_eq, notK_eq, e_not, negK_int, e_neg, iteK_t, iteK_f, e_ite, tupK2_eq, e_tup, lstK_eq, e_lst, e_dct0, ixK_eq, ix1_eq, e_ix, sl1_eq, sl2_eq, e_sl, e_rev, o_no, o_ex, oK_int, e_call, e_bi, e_me, s_nil, s_cons, consA_eq, consB_eq, e_lit, e_glob, e_var0, e_varS, e_comp, i_range1, i_range2, r2a_eq, i_val, vK_tup, vK_str, t_lit, t_cmp, t_cmp2, t_cmp3, t_call, t_bi, t_var, t_and, t_or, t_not, andT_t, andT_f, orT_t, orT_f, notT_eq, v_add, v_sub, c_lt, c_le, c_gt, c_ge, c_eqI, c_neI, c_eqS, c_neS, c_isN, c_isnotN, c_isB, c_isnotB, x_tup, x_lstV, sl_lstV, sl_tup, b_lenT, b_lenV, decide_true, decide_false, Bool.not_true, Bool.not_false, at0, at1, at2, at3, Nat.reduceAdd, Nat.reduceSub, Nat.reduceMul, Int.reduceAdd, Int.reduceSub, Int.reduceMul, Int.reduceNeg, Int.reduceLT, Int.reduceLE, Int.reduceToNat, Int.cast_ofNat_Int, get_at, get_at0, set_at, set_at0, v_addR, addO_ok, b_lenR, lenO_lst, x_ref, ixO_lst, sl_ref, slO_lst, set_ref, m_appR, appO_lst, b_allR, b_anyR, b_listT, vK_ref, vO_lst, me1_app, recO_lst, when_t, List.append_assoc, List.length_append, List.getElem?_cons_zero, List.getElem?_cons_succ, Nat.zero_add, lim_big, lim_lt, Nat.reduceLeDiff, Nat.reduceLT, e, b_divmod ⟨ht, ht2⟩, ea]
def Takes (F : Fns) : Prop := ∀ (h : CH) (p : Nat) (t : Int), Pk h p → 0 < t → t < 1073741824 → ∃ d h', F 93 [.ref p, .int t] h = some (.int d, h') ∧ 0 ≤ d ∧ d < t ∧ Off [p] h h' ∧ Pk h' p
theorem run_mixed (F : Fns) (W : Nat) {h : CH} {c : Int} {B : Nat} (hc : c.natAbs < 2 ^ B) (hB : B ≤ 3000000) : ∃ a : Int, runC F W n216.length b216 [.int c] h = some (.int a, h) ∧ 0 ≤ a := by
  have hk : (577350269189625764509148780501957455647601751270126876018603 : Int).natAbs < 2 ^ 200 := by decide
  have hp : (0 : Int) < 10 ^ (60 : Int).toNat := by decide
  refine ⟨_, ?_, Int.emod_nonneg (c * 577350269189625764509148780501957455647601751270126876018603) (Int.ne_of_gt hp)⟩
  simp only [b216, n216, run_eq, List.length_cons, List.length_nil, List.map_cons, List.map_nil, List.cons_append, List.nil_append, List.replicate, List.set_cons_zero, List.set_cons_succ, x_cons, x_nil, seqC_nx, seqC_rt, x_asg, asgK_nm, asgK_sub, retS_some, retH_some, sub1_eq, sub2_eq, x_expr, exK_eq, x_ret, retK_eq, x_retn, x_iff, iffK_t, iffK_f, x_fo, x_pas, x_par, runK_nx, runK_rt, bindE_some, bindL_some, bindO_some, bindI_some, bindB_some, liftB_some, retV_some, asB_bl, bin1_eq, e_bin, cmpK_eq, cmp1_eq, e_cmp, cmpR_t, cmpR_f, cmp2a_eq, e_cmp2, cmpR3_t, cmpR3_f, cmp3a_eq, e_cmp3, e_and, e_or, andK_t, andK_f, orK_t, orK_f, bOut_eq, notK_eq, e_not, negK_int, e_neg, iteK_t, iteK_f, e_ite, tupK2_eq, e_tup, lstK_eq, e_lst, e_dct0, ixK_eq, ix1_eq, e_ix, sl1_eq, sl2_eq, e_sl, e_rev, o_no, o_ex, oK_int, e_call, e_bi, e_me, s_nil, s_cons, consA_eq, consB_eq, e_lit, e_glob, e_var0, e_varS, e_comp, i_range1, i_range2, r2a_eq, i_val, vK_tup, vK_str, t_lit, t_cmp, t_cmp2, t_cmp3, t_call, t_bi, t_var, t_and, t_or, t_not, andT_t, andT_f, orT_t, orT_f, notT_eq, v_add, v_sub, c_lt, c_le, c_gt, c_ge, c_eqI, c_neI, c_eqS, c_neS, c_isN, c_isnotN, c_isB, c_isnotB, x_tup, x_lstV, sl_lstV, sl_tup, b_lenT, b_lenV, decide_true, decide_false, Bool.not_true, Bool.not_false, v_mulB (bits_of hc hk (by omega)), v_pow (show (0 : Int) ≤ 60 ∧ (60 : Int) ≤ 1000000 ∧ (10 : Int).natAbs < 2 ^ 64 by decide), v_mod hp]
theorem nat_lt {a b : Nat} : decide ((a : Int) < (b : Int)) = decide (a < b) := len_nat
theorem run_pack (F : Fns) (W : Nat) (hM : ∀ (h : CH) (c : Int) (B : Nat), c.natAbs < 2 ^ B → B ≤ 3000000 → ∃ a : Int, F 216 [.int c] h = some (.int a, h) ∧ 0 ≤ a) {h : CH} {ns : List Int} {k : Nat} {B : Nat} (hk : k ≤ 100) (hb : ∀ z ∈ ns, z.natAbs < 2 ^ B) (hB : B ≤ 2000000) :
    ∃ h', runC F W n217.length b217 [.lst (ns.map CV.int), .int (k : Int)] h = some (.ref h.length, h') ∧ Off [] h h' ∧ Pk h' h.length := by
  by_cases hl : k < ns.length
  · have ei : atI (ns.map CV.int) (k : Int) = some (.int ns[k]) := by rw [atI_nat, List.getElem?_map, List.getElem?_eq_getElem hl]; rfl
    have hz := hb ns[k] (List.getElem_mem hl)
    generalize ns[k] = z at ei hz
    obtain ⟨a, ea, ha⟩ := hM h (z + 17 * (k : Int)) (B + 11) (by
      have h1 : (z + 17 * (k : Int)).natAbs ≤ z.natAbs + 1700 := by omega
      have h2 : 1 ≤ 2 ^ B := Nat.one_le_two_pow
      rw [Nat.pow_add]
      have h3 : (2 : Nat) ^ 11 = 2048 := by decide
      rw [h3]
      omega) (by omega)
    refine ⟨h ++ [CO.lst [.int a]], ?_, Off.app _ _ _, a, get_new, ha⟩
    simp only [b217, n217, run_eq, List.length_cons, List.length_nil, List.map_cons, List.map_nil, List.cons_append, List.nil_append, List.replicate, List.set_cons_zero, List.set_cons_succ, x_cons, x_nil, seqC_nx, seqC_rt, x_asg, asgK_nm, asgK_sub, retS_some, retH_some, sub1_eq, sub2_eq, x_expr, exK_eq, x_ret, retK_eq, x_retn, x_iff, iffK_t, iffK_f, x_fo, x_pas, x_par, runK_nx, runK_rt, bindE_some, bindL_some, bindO_some, bindI_some, bindB_some, liftB_some, retV_some, asB_bl, bin1_eq, e_bin, cmpK_eq, cmp1_eq, e_cmp, cmpR_t, cmpR_f, cmp2a_eq, e_cmp2, cmpR3_t, cmpR3_f, cmp3a_eq, e_cmp3, e_and, e_or, andK_t, andK_f, orK_t, orK_f, bOut_eq, notK_eq, e_not, negK_int, e_neg, iteK_t, iteK_f, e_ite, tupK2_eq, e_tup, lstK_eq, e_lst, e_dct0, ixK_eq, ix1_eq, e_ix, sl1_eq, sl2_eq, e_sl, e_rev, o_no, o_ex, oK_int, e_call, e_bi, e_me, s_nil, s_cons, consA_eq, consB_eq, e_lit, e_glob, e_var0, e_varS, e_comp, i_range1, i_range2, r2a_eq, i_val, vK_tup, vK_str, t_lit, t_cmp, t_cmp2, t_cmp3, t_call, t_bi, t_var, t_and, t_or, t_not, andT_t, andT_f, orT_t, orT_f, notT_eq, v_add, v_sub, c_lt, c_le, c_gt, c_ge, c_eqI, c_neI, c_eqS, c_neS, c_isN, c_isnotN, c_isB, c_isnotB, x_tup, x_lstV, sl_lstV, sl_tup, b_lenT, b_lenV, decide_true, decide_false, Bool.not_true, Bool.not_false, List.length_map, nat_lt, hl, ei, v_mul (b64_l (show b64 17 = true by decide)), ea]
  · obtain ⟨a, ea, ha⟩ := hM h (6089 * (k : Int) + 5) 40 (by
      have h1 : (6089 * (k : Int) + 5).natAbs ≤ 1000000 := by omega
      have h3 : (1000000 : Nat) < 2 ^ 40 := by decide
      omega) (by omega)
    refine ⟨h ++ [CO.lst [.int a]], ?_, Off.app _ _ _, a, get_new, ha⟩
    simp only [b217, n217, run_eq, List.length_cons, List.length_nil, List.map_cons, List.map_nil, List.cons_append, List.nil_append, List.replicate, List.set_cons_zero, List.set_cons_succ, x_cons, x_nil, seqC_nx, seqC_rt, x_asg, asgK_nm, asgK_sub, retS_some, retH_some, sub1_eq, sub2_eq, x_expr, exK_eq, x_ret, retK_eq, x_retn, x_iff, iffK_t, iffK_f, x_fo, x_pas, x_par, runK_nx, runK_rt, bindE_some, bindL_some, bindO_some, bindI_some, bindB_some, liftB_some, retV_some, asB_bl, bin1_eq, e_bin, cmpK_eq, cmp1_eq, e_cmp, cmpR_t, cmpR_f, cmp2a_eq, e_cmp2, cmpR3_t, cmpR3_f, cmp3a_eq, e_cmp3, e_and, e_or, andK_t, andK_f, orK_t, orK_f, bOut_eq, notK_eq, e_not, negK_int, e_neg, iteK_t, iteK_f, e_ite, tupK2_eq, e_tup, lstK_eq, e_lst, e_dct0, ixK_eq, ix1_eq, e_ix, sl1_eq, sl2_eq, e_sl, e_rev, o_no, o_ex, oK_int, e_call, e_bi, e_me, s_nil, s_cons, consA_eq, consB_eq, e_lit, e_glob, e_var0, e_varS, e_comp, i_range1, i_range2, r2a_eq, i_val, vK_tup, vK_str, t_lit, t_cmp, t_cmp2, t_cmp3, t_call, t_bi, t_var, t_and, t_or, t_not, andT_t, andT_f, orT_t, orT_f, notT_eq, v_add, v_sub, c_lt, c_le, c_gt, c_ge, c_eqI, c_neI, c_eqS, c_neS, c_isN, c_isnotN, c_isB, c_isnotB, x_tup, x_lstV, sl_lstV, sl_tup, b_lenT, b_lenV, decide_true, decide_false, Bool.not_true, Bool.not_false, List.length_map, nat_lt, hl, v_mul (b64_l (show b64 6089 = true by decide)), ea]
/-! ### hands -/
theorem cut_fr {α : Type} (xs : List α) {i : Int} (h : 0 ≤ i) : cut xs (some i) none = xs.drop i.toNat := by
  have := cut_from xs i.toNat
  rwa [Int.toNat_of_nonneg h] at this
theorem cut_tt {α : Type} (xs : List α) {i : Int} (h : 0 ≤ i) : cut xs none (some i) = xs.take i.toNat := by
  have := cut_to xs i.toNat
  rwa [Int.toNat_of_nonneg h] at this
end TH

namespace TH
open PySem
/-! ### letters under way -/
structure Lt where
  a : List Nat
  b : List Nat
  c : List Nat
deriving DecidableEq
def Lt.cv (l : Lt) : CV := .tup [.str l.a, .str l.b, .str l.c]
theorem Lt.pl (l : Lt) (n : Nat) : pl (n + 1) l.cv = true := by simp only [Lt.cv, TH.pl, TH.pls, Bool.and_self]
def Lt.dd (s : Bool) (l : Lt) : Dd := ⟨s, l.a, l.b, l.c⟩
end TH

namespace TH
open PySem
end TH

namespace TH
open PySem
/-! ### letters under way of a pair, counted -/
def dlt (x y : List Nat) (d : Dd) : Int := if d.a = x ∧ d.b = y then (if d.s = true then 1 else -1) else 0
def cnt (x y : List Nat) : List Dd → Int
  | [] => 0
  | d :: r => dlt x y d + cnt x y r
theorem cnt_app (x y : List Nat) : ∀ ds es : List Dd, cnt x y (ds ++ es) = cnt x y ds + cnt x y es
  | [], es => by simp [cnt]
  | d :: ds, es => by simp only [List.cons_append, cnt, cnt_app x y ds es]; omega
def keepsFrom (r : Int) (pre : List Dd) : List Dd → Bool
  | [] => true
  | d :: post => decide (cnt d.a d.b (pre ++ [d]) ≤ r) && keepsFrom r (pre ++ [d]) post
def mostFrom (m : Int) (pre : List Dd) : List Dd → Int
  | [] => m
  | d :: post => mostFrom (if cnt d.a d.b (pre ++ [d]) > m then cnt d.a d.b (pre ++ [d]) else m) (pre ++ [d]) post
def pk (x y : List Nat) : CV := .tup [.str x, .str y]
theorem pk_inj {x y a b : List Nat} : pk x y = pk a b ↔ a = x ∧ b = y := by
  simp only [pk, CV.tup.injEq, List.cons.injEq, CV.str.injEq, and_true]
  exact ⟨fun h => ⟨h.1.symm, h.2.symm⟩, fun h => ⟨h.1.symm, h.2.symm⟩⟩
end TH

namespace TH
open PySem
def isK (s : Bool) (x y : List Nat) (d : Dd) : Bool := (d.s == s) && decide (pk d.a d.b = pk x y)
theorem cnt_count (x y : List Nat) : ∀ ds : List Dd, cnt x y ds = (ds.countP (isK true x y) : Int) - (ds.countP (isK false x y) : Int)
  | [] => rfl
  | d :: ds => by
    rw [cnt, cnt_count x y ds, List.countP_cons, List.countP_cons]
    unfold dlt isK
    have e : (pk d.a d.b = pk x y) ↔ (d.a = x ∧ d.b = y) := by rw [pk_inj]; exact ⟨fun h => ⟨h.1.symm, h.2.symm⟩, fun h => ⟨h.1.symm, h.2.symm⟩⟩
    by_cases h : d.a = x ∧ d.b = y
    · rw [if_pos h, decide_eq_true (e.mpr h)]
      cases d.s <;> simp <;> omega
    · rw [if_neg h, decide_eq_false fun z => h (e.mp z)]
      simp
/-! ### told of a row -/
structure Rm (F : Fns) : Prop where
  most : ∀ (h : CH) (ds : List Dd), ds.length ≤ 1000 → ∃ h', F 220 [.tup (ds.map Dd.cv)] h = some (.int (mostFrom 0 [] ds), h') ∧ Off [] h h'
  keep : ∀ (h : CH) (ds : List Dd) (r : Int), ds.length ≤ 1000 → 1 ≤ r ∧ r ≤ 40 → ∃ h', F 139 [.tup (ds.map Dd.cv), .int r] h = some (.bl (keepsFrom r [] ds), h') ∧ Off [] h h'
/-! ### k20 -/
structure Rl (F : Fns) : Prop where
  pack : ∀ (h : CH) (ns : List Int) (k : Nat), k ≤ 100 → (∀ z ∈ ns, z.natAbs < 2 ^ 1048576) → ∃ h', F 217 [.lst (ns.map CV.int), .int (k : Int)] h = some (.ref h.length, h') ∧ Off [] h h' ∧ Pk h' h.length
  take : Takes F
  hands : ∀ (h : CH) (p : Nat), Pk h p → ∃ (r : Nat) (ks : List (List Nat)) (h' : CH), F 218 [.ref p] h = some (.ref r, h') ∧ h'[r]? = some (.lst (ks.map .str)) ∧ 2 ≤ ks.length ∧ ks.length ≤ 4 ∧ h.length ≤ r ∧ Off [p] h h' ∧ Pk h' p
  story : ∀ (h : CH) (p r : Nat) (hs : List (List Nat)), Pk h p → h[r]? = some (.lst (hs.map .str)) → 2 ≤ hs.length ∧ hs.length ≤ 1000 → r ≠ p → ∃ (ds : List Dd) (h' : CH), F 219 [.ref p, .ref r, .int 6] h = some (.tup (ds.map Dd.cv), h') ∧ ds.length ≤ 100 ∧ Off [p] h h' ∧ Pk h' p
  right : ∀ (h : CH) (ds : List Dd), ds.length ≤ 1000 → ∃ h', F 221 [.tup (ds.map Dd.cv)] h = some (.bl true, h') ∧ Off [] h h'
end TH

/-! Rows by the numbers of their deeds; orders that keep what must come ahead. -/
namespace TH
open PySem
def hof (d : Dd) : List Nat := if d.s = true then d.a else d.b
def ownB (x : List Nat) (d : Dd) : Bool := decide (hof d = x)
def atP (ds : List Dd) (f : Dd → Bool) (i : Nat) : Bool := match ds[i]? with
  | some d => f d
  | none => false
/-- the numbers of the deeds that are so -/
def ixs (ds : List Dd) (f : Dd → Bool) : List Nat := (List.range ds.length).filter (atP ds f)
def dat (ds : List Dd) (i : Nat) : Dd := (ds[i]?).getD ⟨true, [], [], []⟩
def rowOf (ds : List Dd) (o : List Nat) : List Dd := o.map (dat ds)
theorem atP_some {ds : List Dd} {f : Dd → Bool} {i : Nat} {d : Dd} (e : ds[i]? = some d) : atP ds f i = f d := by unfold atP; rw [e]
theorem atP_lt {ds : List Dd} {f : Dd → Bool} {i : Nat} (e : atP ds f i = true) : i < ds.length := by
  unfold atP at e
  split at e
  · rename_i d hd; exact (List.getElem?_eq_some_iff.mp hd).1
  · cases e
theorem mem_ixs {ds : List Dd} {f : Dd → Bool} {i : Nat} : i ∈ ixs ds f ↔ atP ds f i = true := by
  unfold ixs
  rw [List.mem_filter, List.mem_range]
  exact ⟨fun h => h.2, fun h => ⟨atP_lt h, h⟩⟩
theorem mem_ixs' {ds : List Dd} {f : Dd → Bool} {i : Nat} : i ∈ ixs ds f ↔ ∃ d, ds[i]? = some d ∧ f d = true := by
  rw [mem_ixs]
  unfold atP
  constructor
  · intro h
    split at h
    · rename_i d hd; exact ⟨d, hd, h⟩
    · cases h
  · rintro ⟨d, hd, h⟩
    rw [hd]; exact h
theorem ixs_lt {ds : List Dd} {f : Dd → Bool} {i : Nat} (h : i ∈ ixs ds f) : i < ds.length := atP_lt (mem_ixs.mp h)
theorem ixs_sorted (ds : List Dd) (f : Dd → Bool) : (ixs ds f).Pairwise (· < ·) := List.pairwise_lt_range.filter _
theorem ixs_nodup (ds : List Dd) (f : Dd → Bool) : (ixs ds f).Nodup := (ixs_sorted ds f).imp fun h => Nat.ne_of_lt h
theorem dat_some {ds : List Dd} {i : Nat} {d : Dd} (e : ds[i]? = some d) : dat ds i = d := by unfold dat; rw [e]; rfl
theorem dat_at {ds : List Dd} {i : Nat} (h : i < ds.length) : ds[i]? = some (dat ds i) := by rw [List.getElem?_eq_getElem h]; exact congrArg some (dat_some (List.getElem?_eq_getElem h)).symm
theorem rowOf_range (ds : List Dd) : rowOf ds (List.range ds.length) = ds := by
  apply List.ext_getElem?
  intro i
  unfold rowOf
  rw [List.getElem?_map]
  by_cases h : i < ds.length
  · rw [List.getElem?_range h, dat_at h]; rfl
  · rw [List.getElem?_eq_none (by simpa using h), List.getElem?_eq_none (by omega)]; rfl
theorem rowOf_filter {ds : List Dd} {f : Dd → Bool} : ∀ {o : List Nat}, (∀ i ∈ o, i < ds.length) → (rowOf ds o).filter f = rowOf ds (o.filter (atP ds f))
  | [], _ => rfl
  | i :: o, h => by
    have ih := rowOf_filter (f := f) (o := o) fun j hj => h j (List.mem_cons_of_mem _ hj)
    have hi := dat_at (h i List.mem_cons_self)
    unfold rowOf at ih ⊢
    rw [List.map_cons, List.filter_cons, List.filter_cons, atP_some hi, ih]
    split <;> rfl
theorem ixs_row (ds : List Dd) (f : Dd → Bool) : rowOf ds (ixs ds f) = ds.filter f := by
  have := rowOf_filter (ds := ds) (f := f) (o := List.range ds.length) fun i h => List.mem_range.mp h
  rw [rowOf_range] at this
  exact this.symm
theorem ixs_len (ds : List Dd) (f : Dd → Bool) : (ixs ds f).length = ds.countP f := by
  have := congrArg List.length (ixs_row ds f)
  unfold rowOf at this
  rw [List.length_map] at this
  rw [this, List.countP_eq_length_filter]
/-- j must come ahead of i -/
def Ahd (r : Nat) (ds : List Dd) (j i : Nat) : Prop :=
  (∃ (x : List Nat) (k : Nat), (ixs ds (ownB x))[k]? = some j ∧ (ixs ds (ownB x))[k + 1]? = some i) ∨
  (∃ (x y : List Nat) (k : Nat), (ixs ds (isK true x y))[k]? = some j ∧ (ixs ds (isK false x y))[k]? = some i) ∨
  (∃ (x y : List Nat) (k : Nat), (ixs ds (isK false x y))[k]? = some j ∧ (ixs ds (isK true x y))[k + r]? = some i)
theorem isK_own {s : Bool} {x y : List Nat} {d : Dd} (h : isK s x y d = true) : d.s = s ∧ d.a = x ∧ d.b = y := by
  unfold isK at h
  rw [Bool.and_eq_true, beq_iff_eq, decide_eq_true_eq, pk_inj] at h
  exact ⟨h.1, h.2.1.symm, h.2.2.symm⟩
/-- whose the letters are -/
def who (s : Bool) (x y : List Nat) : List Nat := if s = true then x else y
theorem isK_who {s : Bool} {x y : List Nat} {d : Dd} (h : isK s x y d = true) : ownB (who s x y) d = true := by
  obtain ⟨rfl, rfl, rfl⟩ := isK_own h
  unfold ownB hof who
  rw [decide_eq_true_eq]
theorem ixs_sub {ds : List Dd} {f g : Dd → Bool} (h : ∀ d, g d = true → f d = true) : (ixs ds f).filter (atP ds g) = ixs ds g := by
  unfold ixs
  rw [List.filter_filter]
  refine List.filter_congr fun i _ => ?_
  unfold atP
  cases ds[i]? with
  | none => rfl
  | some d =>
    dsimp only
    cases hg : g d with
    | false => simp
    | true => simp [h d hg]
/-- a chain comes in its order -/
theorem chain_take {K o : List Nat} (nd : K.Nodup) (no : o.Nodup) (hc : ∀ pre i post, o = pre ++ i :: post → ∀ m j, K[m]? = some j → K[m + 1]? = some i → j ∈ pre) :
    ∀ pre post, o = pre ++ post → ∃ t, t ≤ K.length ∧ pre.filter (fun i => decide (i ∈ K)) = K.take t := by
  have key : ∀ (n : Nat) (pre post : List Nat), pre.length = n → o = pre ++ post → ∃ t, t ≤ K.length ∧ pre.filter (fun i => decide (i ∈ K)) = K.take t := by
    intro n
    induction n with
    | zero =>
      intro pre post hn e
      have : pre = [] := List.eq_nil_of_length_eq_zero hn
      subst this
      exact ⟨0, Nat.zero_le _, by simp⟩
    | succ n ih =>
      intro pre post hn e
      obtain ⟨p, i, rfl⟩ : ∃ p i, pre = p ++ [i] := by
        refine ⟨pre.dropLast, pre.getLast (by intro z; rw [z] at hn; simp at hn), (List.dropLast_concat_getLast _).symm⟩
      have hp : p.length = n := by simpa using hn
      obtain ⟨t, ht, et⟩ := ih p (i :: post) hp (by simpa using e)
      have e' : o = p ++ i :: post := by simpa using e
      have hni : i ∉ p := by
        rw [e', List.nodup_append] at no
        exact fun z => no.2.2 i z i List.mem_cons_self rfl
      rw [List.filter_append]
      by_cases hi : i ∈ K
      · obtain ⟨m, hm⟩ := List.getElem?_of_mem hi
        have hml := (List.getElem?_eq_some_iff.mp hm).1
        have hnt : i ∉ K.take t := fun z => by
          rw [← et] at z
          exact hni (List.mem_filter.mp z).1
        have h1 : t ≤ m := Nat.le_of_not_lt fun z => hnt (List.mem_of_getElem? (i := m) (by rw [List.getElem?_take_of_lt z]; exact hm))
        have h2 : m = t := by
          rcases Nat.lt_or_ge t m with z | z
          · exfalso
            obtain ⟨m', rfl⟩ : ∃ m', m = m' + 1 := ⟨m - 1, by omega⟩
            have hj : K[m']? = some K[m'] := List.getElem?_eq_getElem (by omega)
            have hjp := hc p i post e' m' _ hj hm
            have hjt : K[m'] ∈ K.take t := by
              rw [← et]
              exact List.mem_filter.mpr ⟨hjp, by simp⟩
            obtain ⟨q, hq⟩ := List.getElem?_of_mem hjt
            have hql := (List.getElem?_eq_some_iff.mp hq).1
            rw [List.length_take] at hql
            rw [List.getElem?_take_of_lt (by omega)] at hq
            have := (List.getElem?_inj (h₀ := show q < K.length by omega) nd).mp (hq.trans hj.symm)
            omega
          · omega
        subst h2
        refine ⟨m + 1, hml, ?_⟩
        rw [et, List.take_add_one, hm]
        simp [hi]
      · exact ⟨t, ht, by rw [et]; simp [hi]⟩
  exact fun pre post e => key pre.length pre post rfl e
/-- an order of all deeds -/
structure Topo (r : Nat) (ds : List Dd) (o : List Nat) : Prop where
  nd : o.Nodup
  lt : ∀ i ∈ o, i < ds.length
  len : o.length = ds.length
  ord : ∀ pre i post, o = pre ++ i :: post → ∀ j, Ahd r ds j i → j ∈ pre
section
variable {r : Nat} {ds : List Dd} {o : List Nat}
theorem perm_nd {α : Type} [DecidableEq α] : ∀ {ks ts : List α}, ks.Nodup → (∀ k ∈ ks, k ∈ ts) → ts.length ≤ ks.length → ks.Perm ts
  | [], ts, _, _, h => by
    have : ts = [] := List.eq_nil_of_length_eq_zero (by simpa using h)
    rw [this]
  | k :: ks, ts, nd, hm, hl => by
    have h1 : k ∈ ts := hm k List.mem_cons_self
    have h2 : (k :: ks).length = ks.length + 1 := rfl
    have h3 := List.length_erase_of_mem h1
    have p := perm_nd (ks := ks) (ts := ts.erase k) (List.nodup_cons.mp nd).2 (fun y hy => by
      rw [List.mem_erase_of_ne]
      · exact hm y (List.mem_cons_of_mem _ hy)
      · rintro rfl; exact (List.nodup_cons.mp nd).1 hy) (by omega)
    exact (p.cons k).trans (List.perm_cons_erase h1).symm
theorem perm_range {n : Nat} {o : List Nat} (nd : o.Nodup) (lt : ∀ i ∈ o, i < n) (len : o.length = n) : o.Perm (List.range n) := by
  exact perm_nd nd (fun i hi => List.mem_range.mpr (lt i hi)) (by rw [List.length_range, len]; exact Nat.le_refl _)
theorem Topo.perm (T : Topo r ds o) : o.Perm (List.range ds.length) := perm_range T.nd T.lt T.len
theorem filt_mem (ds : List Dd) (f : Dd → Bool) (p : List Nat) : p.filter (fun i => decide (i ∈ ixs ds f)) = p.filter (atP ds f) :=
  List.filter_congr fun i _ => by
    have := mem_ixs (ds := ds) (f := f) (i := i)
    cases h : atP ds f i with
    | true => exact decide_eq_true (this.mpr h)
    | false => exact decide_eq_false fun z => by rw [this.mp z] at h; cases h
theorem Topo.own (T : Topo r ds o) (x : List Nat) {pre post : List Nat} (e : o = pre ++ post) : ∃ t, t ≤ (ixs ds (ownB x)).length ∧ pre.filter (atP ds (ownB x)) = (ixs ds (ownB x)).take t := by
  have := chain_take (ixs_nodup ds (ownB x)) T.nd (fun pre i post e m j h1 h2 => T.ord pre i post e j (.inl ⟨x, m, h1, h2⟩)) pre post e
  rw [filt_mem] at this
  exact this
theorem filter_take {α : Type} (f : α → Bool) : ∀ (K : List α) (t : Nat), ∃ t', t' ≤ (K.filter f).length ∧ (K.take t).filter f = (K.filter f).take t'
  | [], t => ⟨0, by simp, by simp⟩
  | k :: K, 0 => ⟨0, Nat.zero_le _, by simp⟩
  | k :: K, t + 1 => by
    obtain ⟨t', h1, h2⟩ := filter_take f K t
    rw [List.take_succ_cons, List.filter_cons, List.filter_cons]
    split
    · exact ⟨t' + 1, by simp; exact h1, by rw [h2]; rfl⟩
    · exact ⟨t', h1, h2⟩
theorem Topo.kind (T : Topo r ds o) (s : Bool) (x y : List Nat) {pre post : List Nat} (e : o = pre ++ post) : ∃ t, t ≤ (ixs ds (isK s x y)).length ∧ pre.filter (atP ds (isK s x y)) = (ixs ds (isK s x y)).take t := by
  obtain ⟨t, _, ht⟩ := T.own (who s x y) e
  obtain ⟨t', h1, h2⟩ := filter_take (atP ds (isK s x y)) (ixs ds (ownB (who s x y))) t
  rw [ixs_sub fun d h => isK_who h] at h1 h2
  refine ⟨t', h1, ?_⟩
  rw [← h2, ← ht, List.filter_filter]
  refine (List.filter_congr fun i _ => ?_).symm
  unfold atP
  cases ds[i]? with
  | none => rfl
  | some d =>
    dsimp only
    cases hg : isK s x y d with
    | false => simp
    | true => simp [isK_who hg]
/-- each hand's view is the story's -/
theorem Topo.view (T : Topo r ds o) (x : List Nat) : (rowOf ds o).filter (ownB x) = ds.filter (ownB x) := by
  obtain ⟨t, h1, h2⟩ := T.own x (pre := o) (post := []) (by simp)
  have hl : (o.filter (atP ds (ownB x))).length = (ixs ds (ownB x)).length := ((T.perm.filter (atP ds (ownB x))).length_eq)
  rw [h2, List.length_take] at hl
  rw [rowOf_filter T.lt, h2, List.take_of_length_le (by omega), ixs_row]
/-! ### words -/
def wds (s : Bool) (x y : List Nat) (ds : List Dd) : List (List Nat) := (ds.filter (isK s x y)).map Dd.c
theorem wds_app (s : Bool) (x y : List Nat) (ds es : List Dd) : wds s x y (ds ++ es) = wds s x y ds ++ wds s x y es := by unfold wds; rw [List.filter_append, List.map_append]
/-- a row that can go -/
def CanR (ds : List Dd) : Prop := ∀ pre post, ds = pre ++ post → ∀ x y, wds false x y pre <+: wds true x y pre
/-- a story -/
structure Story (ds : List Dd) : Prop where
  can : CanR ds
  all : ∀ x y, wds true x y ds = wds false x y ds
theorem Topo.words (T : Topo r ds o) (s : Bool) (x y : List Nat) {pre post : List Nat} (e : o = pre ++ post) : ∃ t, t ≤ (ixs ds (isK s x y)).length ∧ pre.filter (atP ds (isK s x y)) = (ixs ds (isK s x y)).take t ∧ wds s x y (rowOf ds pre) = (wds s x y ds).take t := by
  obtain ⟨t, h1, h2⟩ := T.kind s x y e
  refine ⟨t, h1, h2, ?_⟩
  unfold wds
  rw [rowOf_filter fun i hi => T.lt i (by rw [e]; exact List.mem_append_left _ hi), h2, ← ixs_row]
  unfold rowOf
  rw [List.map_take, List.map_take]
theorem Story.lens (S : Story ds) (x y : List Nat) : (ixs ds (isK true x y)).length = (ixs ds (isK false x y)).length := by
  have := congrArg List.length (S.all x y)
  unfold wds at this
  rw [List.length_map, List.length_map, ← List.countP_eq_length_filter, ← List.countP_eq_length_filter] at this
  rw [ixs_len, ixs_len, this]
theorem mem_split_pre {o pre post : List Nat} {i : Nat} (e : o = pre ++ post) (hi : i ∈ pre) : ∃ p q, pre = p ++ i :: q ∧ o = p ++ i :: (q ++ post) := by
  obtain ⟨p, q, h⟩ := List.append_of_mem hi
  exact ⟨p, q, h, by rw [e, h]; simp⟩
theorem mem_take_ix {K : List Nat} (nd : K.Nodup) {k t i : Nat} (h : K[k]? = some i) (hm : i ∈ K.take t) : k < t := by
  obtain ⟨q, hq⟩ := List.getElem?_of_mem hm
  have hql := (List.getElem?_eq_some_iff.mp hq).1
  rw [List.length_take] at hql
  rw [List.getElem?_take_of_lt (by omega)] at hq
  have := (List.getElem?_inj (h₀ := show q < K.length by omega) nd).mp (hq.trans h.symm)
  omega
/-- taken isn't more than sent -/
theorem Topo.letters (T : Topo r ds o) (S : Story ds) (x y : List Nat) {pre post : List Nat} (e : o = pre ++ post) {m t : Nat} (hm : pre.filter (atP ds (isK true x y)) = (ixs ds (isK true x y)).take m) (hml : m ≤ (ixs ds (isK true x y)).length)
    (ht : pre.filter (atP ds (isK false x y)) = (ixs ds (isK false x y)).take t) (htl : t ≤ (ixs ds (isK false x y)).length) : t ≤ m ∧ m ≤ t + r := by
  have hl := S.lens x y
  constructor
  · refine Nat.le_of_not_lt fun z => ?_
    have hk : (ixs ds (isK false x y))[t - 1]? = some (ixs ds (isK false x y))[t - 1] := List.getElem?_eq_getElem (by omega)
    have hin : (ixs ds (isK false x y))[t - 1] ∈ pre := by
      have : (ixs ds (isK false x y))[t - 1] ∈ (ixs ds (isK false x y)).take t := List.mem_of_getElem? (i := t - 1) (by rw [List.getElem?_take_of_lt (by omega)]; exact hk)
      rw [← ht] at this
      exact (List.mem_filter.mp this).1
    obtain ⟨p, q, h1, h2⟩ := mem_split_pre e hin
    have hs : (ixs ds (isK true x y))[t - 1]? = some (ixs ds (isK true x y))[t - 1] := List.getElem?_eq_getElem (by omega)
    have hsp := T.ord p _ _ h2 _ (.inr (.inl ⟨x, y, t - 1, hs, hk⟩))
    have hmem : (ixs ds (isK true x y))[t - 1] ∈ (ixs ds (isK true x y)).take m := by
      rw [← hm]
      exact List.mem_filter.mpr ⟨by rw [h1]; exact List.mem_append_left _ hsp, mem_ixs.mp (List.mem_of_getElem? hs)⟩
    have := mem_take_ix (ixs_nodup _ _) hs hmem
    omega
  · refine Nat.le_of_not_lt fun z => ?_
    have hk : (ixs ds (isK true x y))[t + r]? = some (ixs ds (isK true x y))[t + r] := List.getElem?_eq_getElem (by omega)
    have hin : (ixs ds (isK true x y))[t + r] ∈ pre := by
      have : (ixs ds (isK true x y))[t + r] ∈ (ixs ds (isK true x y)).take m := List.mem_of_getElem? (i := t + r) (by rw [List.getElem?_take_of_lt (by omega)]; exact hk)
      rw [← hm] at this
      exact (List.mem_filter.mp this).1
    obtain ⟨p, q, h1, h2⟩ := mem_split_pre e hin
    have hs : (ixs ds (isK false x y))[t]? = some (ixs ds (isK false x y))[t] := List.getElem?_eq_getElem (by omega)
    have hsp := T.ord p _ _ h2 _ (.inr (.inr ⟨x, y, t, hs, hk⟩))
    have hmem : (ixs ds (isK false x y))[t] ∈ (ixs ds (isK false x y)).take t := by
      rw [← ht]
      exact List.mem_filter.mpr ⟨by rw [h1]; exact List.mem_append_left _ hsp, mem_ixs.mp (List.mem_of_getElem? hs)⟩
    have := mem_take_ix (ixs_nodup _ _) hs hmem
    omega
theorem Topo.can (T : Topo r ds o) (S : Story ds) : CanR (rowOf ds o) := by
  intro pre post e x y
  obtain ⟨p, q, rfl, rfl, rfl⟩ := List.map_eq_append_iff.mp e
  obtain ⟨m, h1, h2, h3⟩ := T.words true x y rfl
  obtain ⟨t, g1, g2, g3⟩ := T.words false x y rfl
  have := (T.letters S x y rfl h2 h1 g2 g1).1
  show wds false x y (rowOf ds p) <+: wds true x y (rowOf ds p)
  rw [h3, g3, S.all x y]
  exact List.take_prefix_take_left this
theorem Topo.keeps (T : Topo r ds o) (S : Story ds) : keepsFrom (r : Int) [] (rowOf ds o) = true := by
  have key : ∀ (post pre : List Dd), rowOf ds o = pre ++ post → keepsFrom (r : Int) pre post = true := by
    intro post
    induction post with
    | nil => intro pre _; rfl
    | cons d post ih =>
      intro pre e
      rw [keepsFrom, Bool.and_eq_true, decide_eq_true_eq]
      refine ⟨?_, ih (pre ++ [d]) (by rw [e]; simp)⟩
      have e2 : o.map (dat ds) = (pre ++ [d]) ++ post := by
        have : rowOf ds o = (pre ++ [d]) ++ post := by rw [e]; simp
        exact this
      obtain ⟨p, q, rfl, ep, rfl⟩ := List.map_eq_append_iff.mp e2
      obtain ⟨m, h1, h2⟩ := T.kind true d.a d.b rfl
      obtain ⟨t, g1, g2⟩ := T.kind false d.a d.b rfl
      have hmt := (T.letters S d.a d.b rfl h2 h1 g2 g1).2
      rw [cnt_count, ← ep]
      have lt : ∀ i ∈ p, i < ds.length := fun i hi => T.lt i (List.mem_append_left _ hi)
      have c : ∀ s, ((p.map (dat ds)).countP (isK s d.a d.b)) = (p.filter (atP ds (isK s d.a d.b))).length := fun s => by
        have := rowOf_filter (f := isK s d.a d.b) lt
        rw [List.countP_eq_length_filter]
        unfold rowOf at this
        rw [this, List.length_map]
      rw [c, c, h2, g2, List.length_take, List.length_take]
      omega
  exact key _ [] rfl
end
end TH

/-! The deeds done one by one as they are free; a round where none is. -/
namespace TH
open PySem
/-- the numbers ahead of each -/
def AOk (r : Nat) (ds : List Dd) (A : List (List Nat)) : Prop := A.length = ds.length ∧ ∀ i j, i < ds.length → (j ∈ A.getD i [] ↔ Ahd r ds j i)
def freeK (A : List (List Nat)) (done : List Nat) (k : Nat) : Bool := decide (k ∉ done) && (A.getD k []).all fun j => decide (j ∈ done)
def frees (A : List (List Nat)) (done : List Nat) : List Nat := (List.range A.length).filter (freeK A done)
theorem ahd_ne {r : Nat} {ds : List Dd} {j i : Nat} (h : Ahd r ds j i) : j ≠ i := by
  rintro rfl
  have two : ∀ x y, j ∈ ixs ds (isK true x y) → j ∈ ixs ds (isK false x y) → False := fun x y a b => by
    obtain ⟨d, h1, h2⟩ := mem_ixs'.mp a
    obtain ⟨e, h3, h4⟩ := mem_ixs'.mp b
    rw [h1] at h3
    cases h3
    have a := (isK_own h2).1
    have b := (isK_own h4).1
    rw [a] at b
    cases b
  rcases h with ⟨x, k, h1, h2⟩ | ⟨x, y, k, h1, h2⟩ | ⟨x, y, k, h1, h2⟩
  · have := (List.getElem?_inj (h₀ := (List.getElem?_eq_some_iff.mp h1).1) (ixs_nodup _ _)).mp (h1.trans h2.symm)
    omega
  · exact two x y (List.mem_of_getElem? h1) (List.mem_of_getElem? h2)
  · exact two x y (List.mem_of_getElem? h2) (List.mem_of_getElem? h1)
structure GoodD (r : Nat) (ds : List Dd) (o : List Nat) : Prop where
  nd : o.Nodup
  lt : ∀ i ∈ o, i < ds.length
  ord : ∀ pre i post, o = pre ++ i :: post → ∀ j, Ahd r ds j i → j ∈ pre
section
variable {r : Nat} {ds : List Dd} {A : List (List Nat)}
theorem GoodD.nil : GoodD r ds [] := ⟨List.nodup_nil, (fun i h => nomatch h), (fun pre i post e => by cases pre <;> cases e)⟩
theorem free_iff {done : List Nat} {k : Nat} : freeK A done k = true ↔ k ∉ done ∧ ∀ j ∈ A.getD k [], j ∈ done := by
  unfold freeK
  rw [Bool.and_eq_true, decide_eq_true_eq, List.all_eq_true]
  simp only [decide_eq_true_eq]
theorem GoodD.snoc (ok : AOk r ds A) {o : List Nat} (G : GoodD r ds o) {k : Nat} (hk : k < ds.length) (hf : freeK A o k = true) : GoodD r ds (o ++ [k]) := by
  obtain ⟨h1, h2⟩ := free_iff.mp hf
  refine ⟨?_, fun i hi => ?_, fun pre i post e j hj => ?_⟩
  · rw [List.nodup_append]
    exact ⟨G.nd, by simp, fun a ha b hb e => h1 (by rw [List.mem_singleton.mp hb] at e; rw [← e]; exact ha)⟩
  · rcases List.mem_append.mp hi with z | z
    · exact G.lt i z
    · rw [List.mem_singleton.mp z]; exact hk
  · rcases List.eq_nil_or_concat post with rfl | ⟨post, b, rfl⟩
    · have := List.append_inj' e rfl
      obtain ⟨rfl, e2⟩ := this
      cases e2
      exact h2 j ((ok.2 k j hk).mpr hj)
    · have e' : o ++ [k] = (pre ++ i :: post) ++ [b] := by rw [e]; simp
      obtain ⟨rfl, _⟩ := List.append_inj' e' rfl
      exact G.ord pre i post rfl j hj
theorem frees_mem {done : List Nat} {k : Nat} : k ∈ frees A done ↔ k < A.length ∧ freeK A done k = true := by
  unfold frees
  rw [List.mem_filter, List.mem_range]
/-! ### rounds -/
def Rnd (r : Nat) (ds : List Dd) (ts : List Nat) : Prop := 2 ≤ ts.length ∧ ts.Nodup ∧ (∀ i ∈ ts, i < ds.length) ∧ ∀ k, k < ts.length → ∃ a b, atI ts ((k : Int) - 1) = some a ∧ ts[k]? = some b ∧ Ahd r ds a b
/-- a walk back -/
structure Wk (r : Nat) (ds : List Dd) (done ws : List Nat) : Prop where
  lt : ∀ i ∈ ws, i < ds.length ∧ i ∉ done
  ch : ∀ t a b, ws[t]? = some a → ws[t + 1]? = some b → Ahd r ds b a
  nd : ws.dropLast.Nodup
  ne : ws ≠ []
theorem Wk.one {done : List Nat} {w : Nat} (h : w < ds.length) (hn : w ∉ done) : Wk r ds done [w] := ⟨fun i hi => by rw [List.mem_singleton.mp hi]; exact ⟨h, hn⟩, fun t a b _ h2 => by simp at h2, by simp, by simp⟩
theorem Wk.snoc {done ws : List Nat} {w j : Nat} (W : Wk r ds done (ws ++ [w])) (nd : (ws ++ [w]).Nodup) (hj : j < ds.length) (hn : j ∉ done) (ha : Ahd r ds j w) : Wk r ds done (ws ++ [w] ++ [j]) := by
  refine ⟨fun i hi => ?_, fun t a b h1 h2 => ?_, by rw [List.dropLast_concat]; exact nd, by simp⟩
  · rcases List.mem_append.mp hi with z | z
    · exact W.lt i z
    · rw [List.mem_singleton.mp z]; exact ⟨hj, hn⟩
  · by_cases ht : t + 1 < (ws ++ [w]).length
    · rw [List.getElem?_append_left (by omega)] at h1
      rw [List.getElem?_append_left ht] at h2
      exact W.ch t a b h1 h2
    · have hl := (List.getElem?_eq_some_iff.mp h2).1
      simp only [List.length_append, List.length_cons, List.length_nil] at ht hl
      have ht2 : t = ws.length := by omega
      subst ht2
      rw [List.getElem?_append_left (by simp), List.getElem?_append_right (Nat.le_refl _), Nat.sub_self] at h1
      rw [List.getElem?_append_right (by simp)] at h2
      simp at h1 h2
      subst h1 h2
      exact ha
/-- the round of a walk that met itself -/
theorem Wk.round {done ws : List Nat} {i m w : Nat} (W : Wk r ds done ws) (hm : ws.length = m + 1) (hw : ws[m]? = some w) (hi : ws[i]? = some w) (him : i < m) : Rnd r ds (ws.drop (i + 1)).reverse := by
  have hlen : (ws.drop (i + 1)).length = m - i := by rw [List.length_drop, hm]; omega
  have get : ∀ k, k < m - i → (ws.drop (i + 1)).reverse[k]? = ws[m - k]? := fun k hk => by
    rw [List.getElem?_reverse (by rw [hlen]; exact hk), List.getElem?_drop, hlen]
    congr 1
    omega
  have two : 2 ≤ m - i := by
    refine Nat.le_of_not_lt fun z => ?_
    have h1 : m = i + 1 := by omega
    subst h1
    exact ahd_ne (W.ch i w w hi hw) rfl
  refine ⟨by rw [List.length_reverse, hlen]; exact two, ?_, fun a ha => ?_, fun k hk => ?_⟩
  · refine List.pairwise_reverse.mpr (List.Pairwise.imp Ne.symm ?_)
    have e : ws = ws.dropLast ++ [w] := by
      have h := (List.dropLast_concat_getLast W.ne).symm
      have : ws.getLast W.ne = w := by
        rw [List.getLast_eq_getElem]
        have := (List.getElem?_eq_some_iff.mp hw).2
        simp only [hm, Nat.add_sub_cancel]
        exact this
      rw [this] at h
      exact h
    have hdl : ws.dropLast.length = m := by rw [List.length_dropLast, hm]; rfl
    show (ws.drop (i + 1)).Nodup
    rw [e, List.drop_append_of_le_length (by omega), List.nodup_append]
    refine ⟨W.nd.sublist (List.drop_sublist _ _), by simp, fun a ha b hb eab => ?_⟩
    rw [List.mem_singleton.mp hb] at eab
    subst eab
    obtain ⟨q, hq⟩ := List.getElem?_of_mem ha
    have hql := (List.getElem?_eq_some_iff.mp hq).1
    rw [List.length_drop] at hql
    rw [List.getElem?_drop] at hq
    have hi2 : ws.dropLast[i]? = some a := by
      rw [List.getElem?_dropLast]
      rw [if_pos (by omega)]
      exact hi
    have := (List.getElem?_inj (h₀ := show i < ws.dropLast.length by omega) W.nd).mp (hi2.trans hq.symm)
    omega
  · have := List.mem_reverse.mp ha
    exact (W.lt a (List.mem_of_mem_drop this)).1
  · rw [List.length_reverse, hlen] at hk
    have hb := get k hk
    have hbl : m - k < ws.length := by omega
    rw [List.getElem?_eq_getElem hbl] at hb
    rcases Nat.eq_zero_or_pos k with rfl | hk0
    · have ha := get (m - i - 1) (by omega)
      have e1 : m - (m - i - 1) = i + 1 := by omega
      rw [e1] at ha
      have hal : i + 1 < ws.length := by omega
      rw [List.getElem?_eq_getElem hal] at ha
      refine ⟨ws[i + 1], _, ?_, hb, ?_⟩
      · unfold atI ixN
        rw [if_neg (by omega), List.length_reverse, hlen, if_pos (by omega)]
        have : (((0 : Nat) : Int) - 1 + ((m - i : Nat) : Int)).toNat = m - i - 1 := by omega
        rw [this]
        exact ha
      · simp only [Nat.sub_zero] at *
        have h2 : ws[m] = w := (List.getElem?_eq_some_iff.mp hw).2
        rw [h2]
        exact W.ch i w _ hi (List.getElem?_eq_getElem hal)
    · have ha := get (k - 1) (by omega)
      have hal : m - (k - 1) < ws.length := by omega
      rw [List.getElem?_eq_getElem hal] at ha
      refine ⟨ws[m - (k - 1)], _, ?_, hb, ?_⟩
      · rw [atI_int _ (by omega)]
        have : ((k : Int) - 1).toNat = k - 1 := by omega
        rw [this]
        exact ha
      · refine W.ch (m - k) _ _ (List.getElem?_eq_getElem hbl) ?_
        have : m - k + 1 = m - (k - 1) := by omega
        rw [this]
        exact List.getElem?_eq_getElem hal
end
end TH

/-! Letters that wait, in one list. -/
namespace TH
open PySem
def smp (l g : Lt) : Bool := decide (g.a = l.a ∧ g.b = l.b)
/-- the first one of its two hands -/
def first (l : Lt) (ls : List Lt) : Bool := decide (ls.find? (smp l) = some l)
def ltOf (d : Dd) : Lt := ⟨d.a, d.b, d.c⟩
def prB (x y : List Nat) (g : Lt) : Bool := decide (g.a = x ∧ g.b = y)
def wq (x y : List Nat) (ls : List Lt) : List (List Nat) := (ls.filter (prB x y)).map Lt.c
def Qw (ls : List Lt) (pre : List Dd) : Prop := ∀ x y, wds true x y pre = wds false x y pre ++ wq x y ls
theorem Qw.nil : Qw [] [] := fun _ _ => rfl
theorem isK_one {s : Bool} {x y : List Nat} {d : Dd} : isK s x y d = (decide (d.s = s) && decide (d.a = x ∧ d.b = y)) := by
  unfold isK
  have : decide (pk d.a d.b = pk x y) = decide (d.a = x ∧ d.b = y) := decide_eq_decide.mpr (by rw [pk_inj]; exact ⟨fun h => ⟨h.1.symm, h.2.symm⟩, fun h => ⟨h.1.symm, h.2.symm⟩⟩)
  rw [this]
  congr 1
theorem wds_one (s : Bool) (x y : List Nat) (d : Dd) : wds s x y [d] = if isK s x y d = true then [d.c] else [] := by
  unfold wds
  rw [List.filter_cons]
  split <;> rfl
theorem Qw.send {ls : List Lt} {pre : List Dd} (q : Qw ls pre) {d : Dd} (hd : d.s = true) : Qw (ls ++ [ltOf d]) (pre ++ [d]) := by
  intro x y
  rw [wds_app, wds_app, q x y, wds_one, wds_one]
  unfold wq
  rw [List.filter_append, List.map_append]
  have h1 : isK false x y d = false := by rw [isK_one, hd]; rfl
  have h2 : isK true x y d = prB x y (ltOf d) := by rw [isK_one, hd]; rfl
  rw [h1, h2, if_neg Bool.false_ne_true, List.append_nil, List.append_assoc]
  congr 2
  rw [List.filter_cons]
  split <;> rfl
theorem first_iff {l : Lt} {ls : List Lt} : first l ls = true ↔ ∃ rest, ls.filter (smp l) = l :: rest := by
  unfold first
  rw [decide_eq_true_eq, ← List.head?_filter]
  constructor
  · intro h
    cases e : ls.filter (smp l) with
    | nil => rw [e] at h; cases h
    | cons a b => rw [e] at h; cases h; exact ⟨b, rfl⟩
  · rintro ⟨rest, e⟩
    rw [e]; rfl
theorem erase_no {p : Lt → Bool} {l : Lt} (hp : p l = false) : ∀ ls : List Lt, (ls.erase l).filter p = ls.filter p
  | [] => rfl
  | g :: ls => by
    rw [List.erase_cons]
    by_cases h : g = l
    · subst h
      rw [if_pos (by simp), List.filter_cons, hp, if_neg Bool.false_ne_true]
    · rw [if_neg (by simpa using h), List.filter_cons, List.filter_cons, erase_no hp ls]
theorem erase_yes {p : Lt → Bool} {l : Lt} (hp : p l = true) : ∀ {ls rest : List Lt}, ls.filter p = l :: rest → (ls.erase l).filter p = rest
  | [], rest, e => by cases e
  | g :: ls, rest, e => by
    rw [List.erase_cons]
    rw [List.filter_cons] at e
    by_cases h : g = l
    · subst h
      rw [hp, if_pos rfl] at e
      rw [if_pos (by simp)]
      exact (List.cons.inj e).2
    · rw [if_neg (by simpa using h), List.filter_cons]
      split at e
      · exact absurd (List.cons.inj e).1 h
      · rename_i hg
        rw [if_neg hg]
        exact erase_yes hp e
theorem first_wq {l : Lt} {ls : List Lt} (h : first l ls = true) : ∃ rest, wq l.a l.b ls = l.c :: rest ∧ wq l.a l.b (ls.erase l) = rest := by
  obtain ⟨rest, e⟩ := first_iff.mp h
  refine ⟨rest.map Lt.c, ?_, ?_⟩
  · show (ls.filter (smp l)).map Lt.c = _
    rw [e]; rfl
  · show ((ls.erase l).filter (smp l)).map Lt.c = _
    rw [erase_yes (by simp [smp]) e]
theorem Qw.take {ls : List Lt} {pre : List Dd} (q : Qw ls pre) {d : Dd} (hd : d.s = false) (hf : first (ltOf d) ls = true) : Qw (ls.erase (ltOf d)) (pre ++ [d]) := by
  intro x y
  rw [wds_app, wds_app, q x y, wds_one, wds_one]
  have h1 : isK true x y d = false := by rw [isK_one, hd]; rfl
  have h2 : isK false x y d = prB x y (ltOf d) := by rw [isK_one, hd]; rfl
  rw [h1, h2, if_neg Bool.false_ne_true, List.append_nil, List.append_assoc]
  congr 1
  cases h3 : prB x y (ltOf d) with
  | false =>
    rw [if_neg Bool.false_ne_true, List.nil_append]
    unfold wq
    rw [erase_no h3]
  | true =>
    rw [if_pos rfl]
    obtain ⟨rfl, rfl⟩ : d.a = x ∧ d.b = y := of_decide_eq_true h3
    obtain ⟨rest, e1, e2⟩ := first_wq hf
    show wq (ltOf d).a (ltOf d).b ls = [d.c] ++ wq (ltOf d).a (ltOf d).b (ls.erase (ltOf d))
    rw [e1, e2]
    rfl
theorem Qw.pre {ls : List Lt} {pre : List Dd} (q : Qw ls pre) (x y : List Nat) : wds false x y pre <+: wds true x y pre := by rw [q x y]; exact List.prefix_append _ _
theorem CanR.nil : CanR [] := fun pre post e x y => by
  have : pre = [] := (List.append_eq_nil_iff.mp e.symm).1
  subst this
  exact List.prefix_refl _
theorem CanR.snoc {ds : List Dd} (c : CanR ds) {d : Dd} (h : ∀ x y, wds false x y (ds ++ [d]) <+: wds true x y (ds ++ [d])) : CanR (ds ++ [d]) := by
  intro pre post e x y
  rcases List.eq_nil_or_concat post with rfl | ⟨post, b, rfl⟩
  · rw [List.append_nil] at e
    rw [← e]; exact h x y
  · have e' : ds ++ [d] = (pre ++ post) ++ [b] := by rw [e]; simp
    obtain ⟨rfl, _⟩ := List.append_inj' e' rfl
    exact c pre post rfl x y
/-- what can be done by the waiting ones -/
def canW : List Lt → List Dd → Bool
  | _, [] => true
  | ls, d :: ds => if d.s = true then canW (ls ++ [ltOf d]) ds else if first (ltOf d) ls = true then canW (ls.erase (ltOf d)) ds else false
end TH

namespace TH
open PySem
end TH

namespace TH
open PySem
theorem CanR.go {ds : List Dd} {ls : List Lt} {d : Dd} (c : CanR ds) (q : Qw ls (ds ++ [d])) : CanR (ds ++ [d]) := c.snoc fun x y => q.pre x y
end TH

namespace TH
open PySem
/-! ### lists of numbers -/
def nI (n : Nat) : CV := .int (n : Int)
theorem nI_inj {a b : Nat} (h : nI a = nI b) : a = b := by unfold nI at h; injection h with h; omega
theorem nI_mem {a : Nat} {l : List Nat} : nI a ∈ l.map nI ↔ a ∈ l := by
  rw [List.mem_map]
  exact ⟨fun ⟨k, hk, e⟩ => nI_inj e ▸ hk, fun h => ⟨a, h, rfl⟩⟩
theorem nI_pl (a n : Nat) : pl n (nI a) = true := by cases n <;> simp only [nI, pl]
theorem nI_pls (l : List Nat) (n : Nat) : pls n (l.map nI) = true := pls_iff.mpr fun x hx => by
  obtain ⟨k, _, rfl⟩ := List.mem_map.mp hx
  exact nI_pl k n
theorem in_nI {h : CH} {r a : Nat} {l : List Nat} (e : h[r]? = some (.lst (l.map nI))) : inV h (nI a) (.ref r) = some (decide (a ∈ l)) := by
  rw [inV_plL e (nI_pl a 19) (nI_pls l 19)]
  exact congrArg some (decide_eq_decide.mpr nI_mem)
theorem at_nI {l : List Nat} {k n : Nat} (e : l[k]? = some n) : atI (l.map nI) (k : Int) = some (nI n) := by rw [atI_nat, List.getElem?_map, e]; rfl
/-- a list of lists of numbers -/
structure LLs (h : CH) (g : Nat) (rs : List Nat) (A : List (List Nat)) : Prop where
  cell : h[g]? = some (.lst (rs.map CV.ref))
  len : rs.length = A.length
  nd : rs.Nodup
  row : ∀ (i r : Nat) (a : List Nat), rs[i]? = some r → A[i]? = some a → h[r]? = some (.lst (a.map nI))
  ne : ∀ r ∈ rs, r ≠ g
theorem LLs.off {h h' : CH} {g : Nat} {rs : List Nat} {A : List (List Nat)} {S : List Nat} (L : LLs h g rs A) (o : Off S h h') (hg : g ∉ S) (hr : ∀ r ∈ rs, r ∉ S) : LLs h' g rs A :=
  ⟨o.get L.cell hg, L.len, L.nd, fun i r a e1 e2 => o.get (L.row i r a e1 e2) (hr r (List.mem_of_getElem? e1)), L.ne⟩
theorem LLs.ex {h : CH} {g : Nat} {rs : List Nat} {A : List (List Nat)} (L : LLs h g rs A) {i : Nat} (hi : i < A.length) : ∃ r, rs[i]? = some r ∧ h[r]? = some (.lst ((A.getD i []).map nI)) ∧ r ∈ rs := by
  have h1 : i < rs.length := by rw [L.len]; exact hi
  refine ⟨rs[i], List.getElem?_eq_getElem h1, ?_, List.getElem_mem h1⟩
  rw [List.getD_eq_getElem?_getD, List.getElem?_eq_getElem hi]
  exact L.row i _ _ (List.getElem?_eq_getElem h1) (List.getElem?_eq_getElem hi)
theorem LLs.put {h : CH} {g : Nat} {rs : List Nat} {A : List (List Nat)} (L : LLs h g rs A) {i r j : Nat} (e : rs[i]? = some r) (hi : i < A.length) : LLs (h.set r (.lst ((A.getD i [] ++ [j]).map nI))) g rs (A.set i (A.getD i [] ++ [j])) := by
  have hr : r ∈ rs := List.mem_of_getElem? e
  have hlt : r < h.length := lt_of (L.row i r _ e (List.getElem?_eq_getElem hi))
  refine ⟨by rw [List.getElem?_set_ne (L.ne r hr)]; exact L.cell, by rw [List.length_set]; exact L.len, L.nd, fun i' r' a e1 e2 => ?_, L.ne⟩
  by_cases hii : i' = i
  · subst hii
    rw [e] at e1
    cases e1
    rw [List.getElem?_set_self hlt]
    rw [List.getElem?_set_self hi] at e2
    cases e2
    rfl
  · rw [List.getElem?_set_ne (Ne.symm hii)] at e2
    have hne : r ≠ r' := fun z => by
      subst z
      exact hii ((List.getElem?_inj (h₀ := (List.getElem?_eq_some_iff.mp e1).1) L.nd).mp (e1.trans e.symm))
    rw [List.getElem?_set_ne hne]
    exact L.row i' r' a e1 e2
/-! ### the one ahead in a hand's view -/
def befo (ds : List Dd) (x : List Nat) (i : Nat) : List Nat := (List.range i).filter (atP ds (ownB x))
def prevO (ds : List Dd) (i : Nat) : List Nat := (befo ds (hof (dat ds i)) i).getLast?.toList
theorem range_split {n i : Nat} (h : i < n) : ∃ t, List.range n = List.range i ++ i :: t := by
  obtain ⟨m, rfl⟩ : ∃ m, n = i + 1 + m := ⟨n - (i + 1), by omega⟩
  refine ⟨(List.range m).map (i + 1 + ·), ?_⟩
  rw [List.range_add, List.range_succ]
  simp
theorem ixs_split {ds : List Dd} {f : Dd → Bool} {i : Nat} (hi : i ∈ ixs ds f) : ∃ t, ixs ds f = (List.range i).filter (atP ds f) ++ i :: t := by
  obtain ⟨t, e⟩ := range_split (ixs_lt hi)
  refine ⟨t.filter (atP ds f), ?_⟩
  unfold ixs
  rw [e, List.filter_append, List.filter_cons, if_pos (mem_ixs.mp hi)]
theorem own_self {ds : List Dd} {i : Nat} (h : i < ds.length) : i ∈ ixs ds (ownB (hof (dat ds i))) := mem_ixs'.mpr ⟨_, dat_at h, by simp [ownB]⟩
theorem prevO_iff {ds : List Dd} {i j : Nat} (hi : i < ds.length) : j ∈ prevO ds i ↔ ∃ (x : List Nat) (k : Nat), (ixs ds (ownB x))[k]? = some j ∧ (ixs ds (ownB x))[k + 1]? = some i := by
  have hs := own_self hi
  obtain ⟨t, et⟩ := ixs_split hs
  unfold prevO
  rw [Option.mem_toList]
  constructor
  · intro h
    refine ⟨hof (dat ds i), (befo ds (hof (dat ds i)) i).length - 1, ?_, ?_⟩
    · have hne : befo ds (hof (dat ds i)) i ≠ [] := fun z => by rw [z] at h; cases h
      have hl := List.length_pos_iff.mpr hne
      rw [et]
      show (befo ds (hof (dat ds i)) i ++ i :: t)[_]? = _
      rw [List.getElem?_append_left (by omega)]
      rw [List.getLast?_eq_getElem?] at h
      exact h
    · have hne : befo ds (hof (dat ds i)) i ≠ [] := fun z => by rw [z] at h; cases h
      have hl := List.length_pos_iff.mpr hne
      rw [et]
      show (befo ds (hof (dat ds i)) i ++ i :: t)[_]? = _
      rw [List.getElem?_append_right (by omega)]
      have : (befo ds (hof (dat ds i)) i).length - 1 + 1 - (befo ds (hof (dat ds i)) i).length = 0 := by omega
      rw [this]; rfl
  · rintro ⟨x, k, h1, h2⟩
    have hx : x = hof (dat ds i) := by
      obtain ⟨d, e1, e2⟩ := mem_ixs'.mp (List.mem_of_getElem? h2)
      rw [dat_some e1]
      exact (of_decide_eq_true e2).symm
    subst hx
    have h3 : (ixs ds (ownB (hof (dat ds i))))[(befo ds (hof (dat ds i)) i).length]? = some i := by
      rw [et]
      show (befo ds (hof (dat ds i)) i ++ i :: t)[_]? = _
      rw [List.getElem?_append_right (Nat.le_refl _), Nat.sub_self]; rfl
    have hk := (List.getElem?_inj (h₀ := (List.getElem?_eq_some_iff.mp h2).1) (ixs_nodup _ _)).mp (h2.trans h3.symm)
    rw [et] at h1
    have h4 : (befo ds (hof (dat ds i)) i ++ i :: t)[k]? = some j := h1
    rw [List.getElem?_append_left (by omega)] at h4
    rw [List.getLast?_eq_getElem?, ← hk]
    exact h4
def ownA (ds : List Dd) (j : Nat) : List (List Nat) := (List.range j).map (prevO ds)
structure OwI (ds : List Dd) (h0 : CH) (g1 g2 : Nat) (j : Nat) (h : CH) : Prop where
  last : ∃ kvs, h[g1]? = some (.dct kvs) ∧ LK kvs ∧ kvs.length ≤ j ∧ ∀ x, dget kvs (.str x) = (befo ds x j).getLast?.map nI
  rows : ∃ rs, LLs h g2 rs (ownA ds j) ∧ ∀ r ∈ rs, h0.length ≤ r ∧ r ≠ g1
  off : Off [] h0 h
end TH

namespace TH
open PySem
/-! ### numbers by pairs -/
structure Ne where
  x : List Nat
  y : List Nat
  r : Nat
  ns : List Nat
def Ne.kv (e : Ne) : CV × CV := (pk e.x e.y, .ref e.r)
structure Nb (h : CH) (g : Nat) (es : List Ne) : Prop where
  cell : h[g]? = some (.dct (es.map Ne.kv))
  row : ∀ e ∈ es, h[e.r]? = some (.lst (e.ns.map nI)) ∧ e.r ≠ g
  ndr : (es.map Ne.r).Nodup
  ndk : (es.map fun e => pk e.x e.y).Nodup
def kix (ds : List Dd) (s : Bool) (x y : List Nat) (j : Nat) : List Nat := (List.range j).filter (atP ds (isK s x y))
structure Nsem (ds : List Dd) (s : Bool) (j : Nat) (es : List Ne) : Prop where
  is : ∀ e ∈ es, e.ns = kix ds s e.x e.y j
  ex : ∀ x y, kix ds s x y j ≠ [] → ∃ e ∈ es, e.x = x ∧ e.y = y
theorem kix_succ {ds : List Dd} {s : Bool} {x y : List Nat} {j : Nat} : kix ds s x y (j + 1) = kix ds s x y j ++ if atP ds (isK s x y) j = true then [j] else [] := by
  unfold kix
  rw [List.range_succ, List.filter_append, List.filter_cons]
  split <;> rfl
theorem m_setd {h : CH} {r : Nat} {kvs : List (CV × CV)} {k d : CV} (e : h[r]? = some (.dct kvs)) (e2 : kok kvs k = true) (hl : kvs.length < lim) :
    meV .setdefault (.ref r) [k, d] h = match dget kvs k with
      | some v => some (v, h)
      | none => some (d, h.set r (.dct (dput kvs k d))) := by
  have e3 : (kok kvs k && decide (kvs.length < lim)) = true := by rw [e2, decide_eq_true hl]; rfl
  simp only [meV, e, e3, if_true] <;> (cases dget kvs k <;> rfl)
theorem isK_at {ds : List Dd} {s : Bool} {j : Nat} {d : Dd} (e : ds[j]? = some d) {x y : List Nat} : atP ds (isK s x y) j = (d.s == s && decide (d.a = x ∧ d.b = y)) := by
  rw [atP_some e, isK_one]
  congr 1
theorem nI_eq (j : Nat) : nI j = .int (j : Int) := rfl
end TH

namespace TH
open PySem
/-- what is ahead so far -/
def AP (r : Nat) (ds : List Dd) (P : List Nat → List Nat → Nat → Prop) (A : List (List Nat)) : Prop :=
  A.length = ds.length ∧ ∀ i j, i < ds.length → (j ∈ A.getD i [] ↔ (∃ (x : List Nat) (k : Nat), (ixs ds (ownB x))[k]? = some j ∧ (ixs ds (ownB x))[k + 1]? = some i) ∨
    ∃ (x y : List Nat) (k : Nat), P x y k ∧ (((ixs ds (isK true x y))[k]? = some j ∧ (ixs ds (isK false x y))[k]? = some i) ∨ ∃ m : Nat, k = m + r ∧ (ixs ds (isK false x y))[m]? = some j ∧ (ixs ds (isK true x y))[k]? = some i))
theorem AP.start {r : Nat} {ds : List Dd} : AP r ds (fun _ _ _ => False) (ownA ds ds.length) := by
  refine ⟨by simp [ownA], fun i j hi => ?_⟩
  unfold ownA
  rw [List.getD_eq_getElem?_getD, List.getElem?_map, List.getElem?_range hi]
  simp only [Option.map_some, Option.getD_some]
  rw [prevO_iff hi]
  constructor
  · exact .inl
  · rintro (z | ⟨_, _, _, z, _⟩)
    · exact z
    · exact z.elim
theorem AP.add {r : Nat} {ds : List Dd} {P : List Nat → List Nat → Nat → Prop} {A : List (List Nat)} (h : AP r ds P A) {x y : List Nat} {k s t : Nat} (hs : (ixs ds (isK true x y))[k]? = some s) (ht : (ixs ds (isK false x y))[k]? = some t) {B : List (List Nat)} (hB : B.length = A.length)
    (hm : ∀ i j, j ∈ B.getD i [] ↔ j ∈ A.getD i [] ∨ (i = t ∧ j = s) ∨ (i = s ∧ ∃ m : Nat, k = m + r ∧ (ixs ds (isK false x y))[m]? = some j)) : AP r ds (fun a b c => P a b c ∨ (a = x ∧ b = y ∧ c = k)) B := by
  refine ⟨hB.trans h.1, fun i j hi => ?_⟩
  rw [hm, h.2 i j hi]
  constructor
  · rintro ((z | ⟨a, b, c, p, z⟩) | ⟨rfl, rfl⟩ | ⟨rfl, m, e, z⟩)
    · exact .inl z
    · exact .inr ⟨a, b, c, .inl p, z⟩
    · exact .inr ⟨x, y, k, .inr ⟨rfl, rfl, rfl⟩, .inl ⟨hs, ht⟩⟩
    · exact .inr ⟨x, y, k, .inr ⟨rfl, rfl, rfl⟩, .inr ⟨m, e, z, hs⟩⟩
  · rintro (z | ⟨a, b, c, p | ⟨rfl, rfl, rfl⟩, z⟩)
    · exact .inl (.inl z)
    · exact .inl (.inr ⟨a, b, c, p, z⟩)
    · rcases z with ⟨z1, z2⟩ | ⟨m, e, z1, z2⟩
      · rw [hs] at z1
        rw [ht] at z2
        exact .inr (.inl ⟨(Option.some.inj z2).symm, (Option.some.inj z1).symm⟩)
      · rw [hs] at z2
        exact .inr (.inr ⟨(Option.some.inj z2).symm, m, e, z1⟩)
theorem AP.all {r : Nat} {ds : List Dd} {P : List Nat → List Nat → Nat → Prop} {A : List (List Nat)} (h : AP r ds P A) (hP : ∀ (x y : List Nat) (k s : Nat), (ixs ds (isK true x y))[k]? = some s → P x y k) : AOk r ds A := by
  refine ⟨h.1, fun i j hi => ?_⟩
  rw [h.2 i j hi]
  unfold Ahd
  constructor
  · rintro (z | ⟨x, y, k, _, ⟨z1, z2⟩ | ⟨m, rfl, z1, z2⟩⟩)
    · exact .inl z
    · exact .inr (.inl ⟨x, y, k, z1, z2⟩)
    · exact .inr (.inr ⟨x, y, m, z1, z2⟩)
  · rintro (z | ⟨x, y, k, z1, z2⟩ | ⟨x, y, k, z1, z2⟩)
    · exact .inl z
    · exact .inr ⟨x, y, k, hP x y k _ z1, .inl ⟨z1, z2⟩⟩
    · exact .inr ⟨x, y, k + r, hP x y _ _ z2, .inr ⟨k, rfl, z1, z2⟩⟩
/-- where the numbers stand -/
structure Nx (ds : List Dd) (h : CH) (g gs gt : Nat) (rs : List Nat) (es ts : List Ne) : Prop where
  cs : h[gs]? = some (.lkd (es.map Ne.kv))
  ct : h[gt]? = some (.dct (ts.map Ne.kv))
  re : ∀ e ∈ es, h[e.r]? = some (.lst (e.ns.map nI)) ∧ e.ns = ixs ds (isK true e.x e.y)
  rt : ∀ e ∈ ts, h[e.r]? = some (.lst (e.ns.map nI)) ∧ e.ns = ixs ds (isK false e.x e.y)
  ke : (es.map fun e => pk e.x e.y).Nodup
  kt : (ts.map fun e => pk e.x e.y).Nodup
  ex : ∀ x y, ixs ds (isK false x y) ≠ [] → ∃ e ∈ ts, e.x = x ∧ e.y = y
  far : gs ∉ rs ∧ gt ∉ rs ∧ (∀ e ∈ es, e.r ∉ rs) ∧ (∀ e ∈ ts, e.r ∉ rs)
theorem Nx.off {ds : List Dd} {h h' : CH} {g gs gt : Nat} {rs : List Nat} {es ts : List Ne} (N : Nx ds h g gs gt rs es ts) (o : Off rs h h') : Nx ds h' g gs gt rs es ts :=
  ⟨o.get N.cs N.far.1, o.get N.ct N.far.2.1, fun e he => ⟨o.get (N.re e he).1 (N.far.2.2.1 e he), (N.re e he).2⟩, fun e he => ⟨o.get (N.rt e he).1 (N.far.2.2.2 e he), (N.rt e he).2⟩, N.ke, N.kt, N.ex, N.far⟩
end TH

namespace TH
open PySem
theorem AP.congr {r : Nat} {ds : List Dd} {P Q : List Nat → List Nat → Nat → Prop} {A : List (List Nat)} (h : AP r ds P A) (e : ∀ x y k, P x y k ↔ Q x y k) : AP r ds Q A := by
  have : P = Q := funext fun x => funext fun y => funext fun k => propext (e x y k)
  rw [← this]; exact h
/-- the two -/
structure Ah (F : Fns) : Prop where
  own : ∀ (h : CH) (ds : List Dd), ds.length ≤ 1000 → ∃ (g : Nat) (rs : List Nat) (h' : CH), F 141 [.tup (ds.map Dd.cv)] h = some (.ref g, h') ∧ LLs h' g rs (ownA ds ds.length) ∧ (∀ r ∈ rs, h.length ≤ r) ∧ h.length ≤ g ∧ Off [] h h'
  num : ∀ (h : CH) (s : Bool) (ds : List Dd), ds.length ≤ 1000 → ∃ (es : List Ne) (h' : CH), F 140 [.tup (ds.map Dd.cv), .str (kd s)] h = some (.ref h.length, h') ∧ Nb h' h.length es ∧ (∀ e ∈ es, e.ns = ixs ds (isK s e.x e.y) ∧ h.length ≤ e.r) ∧ (∀ x y, ixs ds (isK s x y) ≠ [] → ∃ e ∈ es, e.x = x ∧ e.y = y) ∧ es.length ≤ ds.length ∧ Off [] h h'
end TH

namespace TH
open PySem
/-! ### lists of numbers, asked -/
def nv : CV → Nat
  | .int i => i.toNat
  | _ => 0
theorem nv_nI (n : Nat) : nv (nI n) = n := by simp [nv, nI]
theorem src_nI {h : CH} {n i : Nat} : (Src.ints 0 n).item h i = some (((List.range n).map nI)[i]?) := by
  rw [src_ints, List.getElem?_map]
  by_cases hi : i < n
  · rw [if_pos hi, List.getElem?_range hi]
    simp [nI]
  · rw [if_neg hi, List.getElem?_eq_none (by simpa using hi)]; rfl
theorem filter_nI {f : Nat → Bool} (l : List Nat) : (l.map nI).filter (fun v => f (nv v)) = (l.filter f).map nI := by
  rw [List.filter_map]
  have : ((fun v => f (nv v)) ∘ nI) = f := funext fun n => by simp only [Function.comp, nv_nI]
  rw [this]
theorem map_nI_id (l : List CV) : l.map (fun v => v) = l := List.map_id' l
theorem nI_listInj {a b : List Nat} : a.map nI = b.map nI ↔ a = b := List.map_inj_right fun _ _ => nI_inj
theorem eq_nI {h : CH} {a b : Nat} {x y : List Nat} (e1 : h[a]? = some (.lst (x.map nI))) (e2 : h[b]? = some (.lst (y.map nI))) : eqV h (.ref a) (.ref b) = some (decide (x = y)) := by
  rw [eqV_plL e1 e2 (nI_pls x 18) (nI_pls y 18)]
  exact congrArg some (decide_eq_decide.mpr nI_listInj)
structure RdI (r : Nat) (ds : List Dd) (g dn wk : Nat) (done : List Nat) (h0 : CH) (k : Nat) (s' : Env) (h' : CH) : Prop where
  ex : ∃ (ws : List Nat) (w : Nat), s' = [some (.ref g), some (.ref dn), some (.ref wk), none, none] ∧ h'[wk]? = some (.lst ((ws ++ [w]).map nI)) ∧ Wk r ds done (ws ++ [w]) ∧ k + ws.length = ds.length
  off : Off [wk] h0 h'
end TH

namespace TH
open PySem
/-! ### run_within -/
def rowS : List Nat := [114, 111, 119]
def rndS : List Nat := [114, 111, 117, 110, 100]
def Within (r : Nat) (ds : List Dd) (v : CV) : Prop := (∃ o, Topo r ds o ∧ v = .tup [.str rowS, .tup ((rowOf ds o).map Dd.cv)]) ∨ ∃ ts, Rnd r ds ts ∧ v = .tup [.str rndS, .tup (ts.map nI)]
theorem AOk.sz {r : Nat} {ds : List Dd} {A : List (List Nat)} (ok : AOk r ds A) : True := trivial
def tst144 : CE := (.cmp .lt (.bi .len (.cons (.var 3) .nil)) (.bi .len (.cons (.var 0) .nil)))
def frE : CE := (.comp (.var 5) 5 (.range1 (.bi .len (.cons (.var 0) .nil))) (.and (.cmp .notin (.var 5) (.var 3)) (.bi .all (.cons (.comp (.cmp .isin (.var 6) (.var 3)) 6 (.val (.ix (.var 2) (.var 5))) (.lit (.bl true))) .nil))))
def in144 : CSs := (.cons (.asg (.nm 4) frE) (.cons (.iff (.cmp .eq (.var 4) (.lst .nil)) (.cons (.ret (.tup (.cons (.lit (.str [114, 111, 117, 110, 100])) (.cons (.call 143 (.cons (.var 2) (.cons (.var 3) .nil))) .nil)))) .nil) .nil) (.cons (.expr (.me .append (.var 3) (.cons (.ix (.var 4) (.lit (.int 0))) .nil))) .nil)))
theorem free_ev (F : Fns) {h : CH} {g dn r : Nat} {rs done : List Nat} {A : List (List Nat)} {ds : List Dd} {x1 x4 x7 : Option CV} (L : LLs h g rs A) (hA : A.length = ds.length) (hsz : ∀ i, (A.getD i []).length ≤ 100000) (gd : h[dn]? = some (.lst (done.map nI))) (hl : ds.length ≤ 150) :
    ∃ (h' : CH), evalC F frE [some (.tup (ds.map Dd.cv)), x1, some (.ref g), some (.ref dn), x4, none, none, x7] h = some (.ref h'.length, h' ++ [.lst ((frees A done).map nI)]) ∧ Off [] h h' := by
  have sm : small62 (ds.length : Int) = true := by unfold small62; simp only [Bool.and_eq_true, decide_eq_true_eq]; omega
  obtain ⟨h', ec, o⟩ := comp_off (F := F) (s := [some (.tup (ds.map Dd.cv)), x1, some (.ref g), some (.ref dn), x4, none, none, x7]) (h := h) (elt := .var 5) (cond := (.and (.cmp .notin (.var 5) (.var 3)) (.bi .all (.cons (.comp (.cmp .isin (.var 6) (.var 3)) 6 (.val (.ix (.var 2) (.var 5))) (.lit (.bl true))) .nil)))) (i := 5) (src := .ints 0 ds.length) (xs := (List.range ds.length).map nI)
    (fun v => freeK A done (nv v)) (fun v => v) (fun h' _ j => src_nI) (by rw [src_intsL]; simp) (by rw [List.length_map, List.length_range]; exact lim_big (by omega))
    (fun v hv h' o => by
      obtain ⟨n, hn, rfl⟩ := List.mem_map.mp hv
      rw [List.mem_range] at hn
      rw [nv_nI]
      have L' := L.off o (by simp) (by simp)
      have gd' := o.get gd (by simp)
      have hin := in_nI (a := n) gd'
      by_cases hd : n ∈ done
      · rw [decide_eq_true hd] at hin
        refine ⟨h', ?_, .refl _ _, fun hp => ?_⟩
        · have : freeK A done n = false := by unfold freeK; simp [hd]
          rw [this]
          simp only [run_eq, List.length_cons, List.length_nil, List.map_cons, List.map_nil, List.cons_append, List.nil_append, List.replicate, List.set_cons_zero, List.set_cons_succ, x_cons, x_nil, seqC_nx, seqC_rt, x_asg, asgK_nm, asgK_sub, retS_some, retH_some, sub1_eq, sub2_eq, x_expr, exK_eq, x_ret, retK_eq, x_retn, x_iff, iffK_t, iffK_f, x_fo, x_pas, x_par, runK_nx, runK_rt, bindE_some, bindL_some, bindO_some, bindI_some, bindB_some, liftB_some, retV_some, asB_bl, bin1_eq, e_bin, cmpK_eq, cmp1_eq, e_cmp, cmpR_t, cmpR_f, cmp2a_eq, e_cmp2, cmpR3_t, cmpR3_f, cmp3a_eq, e_cmp3, e_and, e_or, andK_t, andK_f, orK_t, orK_f, bOut_eq, notK_eq, e_not, negK_int, e_neg, iteK_t, iteK_f, e_ite, tupK2_eq, e_tup, lstK_eq, e_lst, e_dct0, ixK_eq, ix1_eq, e_ix, sl1_eq, sl2_eq, e_sl, e_rev, o_no, o_ex, oK_int, e_call, e_bi, e_me, s_nil, s_cons, consA_eq, consB_eq, e_lit, e_glob, e_var0, e_varS, e_comp, i_range1, i_range2, r2a_eq, i_val, vK_tup, vK_str, t_lit, t_cmp, t_cmp2, t_cmp3, t_call, t_bi, t_var, t_and, t_or, t_not, andT_t, andT_f, orT_t, orT_f, notT_eq, v_add, v_sub, c_lt, c_le, c_gt, c_ge, c_eqI, c_neI, c_eqS, c_neS, c_isN, c_isnotN, c_isB, c_isnotB, x_tup, x_lstV, sl_lstV, sl_tup, b_lenT, b_lenV, decide_true, decide_false, Bool.not_true, Bool.not_false, c_notin hin]
        · exact ⟨h', by simp only [run_eq, List.length_cons, List.length_nil, List.map_cons, List.map_nil, List.cons_append, List.nil_append, List.replicate, List.set_cons_zero, List.set_cons_succ, x_cons, x_nil, seqC_nx, seqC_rt, x_asg, asgK_nm, asgK_sub, retS_some, retH_some, sub1_eq, sub2_eq, x_expr, exK_eq, x_ret, retK_eq, x_retn, x_iff, iffK_t, iffK_f, x_fo, x_pas, x_par, runK_nx, runK_rt, bindE_some, bindL_some, bindO_some, bindI_some, bindB_some, liftB_some, retV_some, asB_bl, bin1_eq, e_bin, cmpK_eq, cmp1_eq, e_cmp, cmpR_t, cmpR_f, cmp2a_eq, e_cmp2, cmpR3_t, cmpR3_f, cmp3a_eq, e_cmp3, e_and, e_or, andK_t, andK_f, orK_t, orK_f, bOut_eq, notK_eq, e_not, negK_int, e_neg, iteK_t, iteK_f, e_ite, tupK2_eq, e_tup, lstK_eq, e_lst, e_dct0, ixK_eq, ix1_eq, e_ix, sl1_eq, sl2_eq, e_sl, e_rev, o_no, o_ex, oK_int, e_call, e_bi, e_me, s_nil, s_cons, consA_eq, consB_eq, e_lit, e_glob, e_var0, e_varS, e_comp, i_range1, i_range2, r2a_eq, i_val, vK_tup, vK_str, t_lit, t_cmp, t_cmp2, t_cmp3, t_call, t_bi, t_var, t_and, t_or, t_not, andT_t, andT_f, orT_t, orT_f, notT_eq, v_add, v_sub, c_lt, c_le, c_gt, c_ge, c_eqI, c_neI, c_eqS, c_neS, c_isN, c_isnotN, c_isB, c_isnotB, x_tup, x_lstV, sl_lstV, sl_tup, b_lenT, b_lenV, decide_true, decide_false, Bool.not_true, Bool.not_false], .refl _ _⟩
      · rw [decide_eq_false hd] at hin
        obtain ⟨rr, e1, c1, m1⟩ := L'.ex (show n < A.length by omega)
        have ec := comp_all (F := F) (s := [some (.tup (ds.map Dd.cv)), x1, some (.ref g), some (.ref dn), x4, some (nI n), none, x7]) (h := h') (elt := .cmp .isin (.var 6) (.var 3)) (i := 6) (src := .cell rr) (xs := (A.getD n []).map nI)
          (fun v => .bl (decide (nv v ∈ done))) (fun i => src_cell c1) (src_cellL c1) (by rw [List.length_map]; exact lim_big (hsz n)) (fun v hv => by
            obtain ⟨m, hm, rfl⟩ := List.mem_map.mp hv
            rw [nv_nI]
            have := in_nI (a := m) gd'
            simp only [run_eq, List.length_cons, List.length_nil, List.map_cons, List.map_nil, List.cons_append, List.nil_append, List.replicate, List.set_cons_zero, List.set_cons_succ, x_cons, x_nil, seqC_nx, seqC_rt, x_asg, asgK_nm, asgK_sub, retS_some, retH_some, sub1_eq, sub2_eq, x_expr, exK_eq, x_ret, retK_eq, x_retn, x_iff, iffK_t, iffK_f, x_fo, x_pas, x_par, runK_nx, runK_rt, bindE_some, bindL_some, bindO_some, bindI_some, bindB_some, liftB_some, retV_some, asB_bl, bin1_eq, e_bin, cmpK_eq, cmp1_eq, e_cmp, cmpR_t, cmpR_f, cmp2a_eq, e_cmp2, cmpR3_t, cmpR3_f, cmp3a_eq, e_cmp3, e_and, e_or, andK_t, andK_f, orK_t, orK_f, bOut_eq, notK_eq, e_not, negK_int, e_neg, iteK_t, iteK_f, e_ite, tupK2_eq, e_tup, lstK_eq, e_lst, e_dct0, ixK_eq, ix1_eq, e_ix, sl1_eq, sl2_eq, e_sl, e_rev, o_no, o_ex, oK_int, e_call, e_bi, e_me, s_nil, s_cons, consA_eq, consB_eq, e_lit, e_glob, e_var0, e_varS, e_comp, i_range1, i_range2, r2a_eq, i_val, vK_tup, vK_str, t_lit, t_cmp, t_cmp2, t_cmp3, t_call, t_bi, t_var, t_and, t_or, t_not, andT_t, andT_f, orT_t, orT_f, notT_eq, v_add, v_sub, c_lt, c_le, c_gt, c_ge, c_eqI, c_neI, c_eqS, c_neS, c_isN, c_isnotN, c_isB, c_isnotB, x_tup, x_lstV, sl_lstV, sl_tup, b_lenT, b_lenV, decide_true, decide_false, Bool.not_true, Bool.not_false, c_in this])
        have emap : ((A.getD n []).map nI).map (fun v => CV.bl (decide (nv v ∈ done))) = ((A.getD n []).map fun m => decide (m ∈ done)).map CV.bl := by
          rw [List.map_map, List.map_map]; exact List.map_congr_left fun f _ => by simp only [Function.comp, nv_nI]
        rw [emap] at ec
        have ea := b_all (get_new (h := h') (o := CO.lst (((A.getD n []).map fun m => decide (m ∈ done)).map CV.bl)))
        have hal : ((A.getD n []).map fun m => decide (m ∈ done)).all id = freeK A done n := by
          unfold freeK
          rw [decide_eq_true hd, Bool.true_and, List.all_map]
          rfl
        rw [hal] at ea
        have hix : ixV (.ref g) (nI n) h' = some (.ref rr) := by rw [nI_eq, x_lst L'.cell, atI_nat, List.getElem?_map, e1]; rfl
        refine ⟨h' ++ [CO.lst (((A.getD n []).map fun m => decide (m ∈ done)).map CV.bl)], ?_, Off.app _ _ _, fun hp => ⟨_, by simp only [run_eq, List.length_cons, List.length_nil, List.map_cons, List.map_nil, List.cons_append, List.nil_append, List.replicate, List.set_cons_zero, List.set_cons_succ, x_cons, x_nil, seqC_nx, seqC_rt, x_asg, asgK_nm, asgK_sub, retS_some, retH_some, sub1_eq, sub2_eq, x_expr, exK_eq, x_ret, retK_eq, x_retn, x_iff, iffK_t, iffK_f, x_fo, x_pas, x_par, runK_nx, runK_rt, bindE_some, bindL_some, bindO_some, bindI_some, bindB_some, liftB_some, retV_some, asB_bl, bin1_eq, e_bin, cmpK_eq, cmp1_eq, e_cmp, cmpR_t, cmpR_f, cmp2a_eq, e_cmp2, cmpR3_t, cmpR3_f, cmp3a_eq, e_cmp3, e_and, e_or, andK_t, andK_f, orK_t, orK_f, bOut_eq, notK_eq, e_not, negK_int, e_neg, iteK_t, iteK_f, e_ite, tupK2_eq, e_tup, lstK_eq, e_lst, e_dct0, ixK_eq, ix1_eq, e_ix, sl1_eq, sl2_eq, e_sl, e_rev, o_no, o_ex, oK_int, e_call, e_bi, e_me, s_nil, s_cons, consA_eq, consB_eq, e_lit, e_glob, e_var0, e_varS, e_comp, i_range1, i_range2, r2a_eq, i_val, vK_tup, vK_str, t_lit, t_cmp, t_cmp2, t_cmp3, t_call, t_bi, t_var, t_and, t_or, t_not, andT_t, andT_f, orT_t, orT_f, notT_eq, v_add, v_sub, c_lt, c_le, c_gt, c_ge, c_eqI, c_neI, c_eqS, c_neS, c_isN, c_isnotN, c_isB, c_isnotB, x_tup, x_lstV, sl_lstV, sl_tup, b_lenT, b_lenV, decide_true, decide_false, Bool.not_true, Bool.not_false], .refl _ _⟩⟩
        simp only [run_eq, List.length_cons, List.length_nil, List.map_cons, List.map_nil, List.cons_append, List.nil_append, List.replicate, List.set_cons_zero, List.set_cons_succ, x_cons, x_nil, seqC_nx, seqC_rt, x_asg, asgK_nm, asgK_sub, retS_some, retH_some, sub1_eq, sub2_eq, x_expr, exK_eq, x_ret, retK_eq, x_retn, x_iff, iffK_t, iffK_f, x_fo, x_pas, x_par, runK_nx, runK_rt, bindE_some, bindL_some, bindO_some, bindI_some, bindB_some, liftB_some, retV_some, asB_bl, bin1_eq, e_bin, cmpK_eq, cmp1_eq, e_cmp, cmpR_t, cmpR_f, cmp2a_eq, e_cmp2, cmpR3_t, cmpR3_f, cmp3a_eq, e_cmp3, e_and, e_or, andK_t, andK_f, orK_t, orK_f, bOut_eq, notK_eq, e_not, negK_int, e_neg, iteK_t, iteK_f, e_ite, tupK2_eq, e_tup, lstK_eq, e_lst, e_dct0, ixK_eq, ix1_eq, e_ix, sl1_eq, sl2_eq, e_sl, e_rev, o_no, o_ex, oK_int, e_call, e_bi, e_me, s_nil, s_cons, consA_eq, consB_eq, e_lit, e_glob, e_var0, e_varS, e_comp, i_range1, i_range2, r2a_eq, i_val, vK_tup, vK_str, t_lit, t_cmp, t_cmp2, t_cmp3, t_call, t_bi, t_var, t_and, t_or, t_not, andT_t, andT_f, orT_t, orT_f, notT_eq, v_add, v_sub, c_lt, c_le, c_gt, c_ge, c_eqI, c_neI, c_eqS, c_neS, c_isN, c_isnotN, c_isB, c_isnotB, x_tup, x_lstV, sl_lstV, sl_tup, b_lenT, b_lenV, decide_true, decide_false, Bool.not_true, Bool.not_false, c_notin hin, hix, vK_lst c1, ec, ea])
  rw [map_nI_id, filter_nI (f := freeK A done)] at ec
  refine ⟨h', ?_, o⟩
  have hfr : (List.range ds.length).filter (freeK A done) = frees A done := by unfold frees; rw [hA]
  rw [hfr] at ec
  simp only [frE, run_eq, List.length_cons, List.length_nil, List.map_cons, List.map_nil, List.cons_append, List.nil_append, List.replicate, List.set_cons_zero, List.set_cons_succ, x_cons, x_nil, seqC_nx, seqC_rt, x_asg, asgK_nm, asgK_sub, retS_some, retH_some, sub1_eq, sub2_eq, x_expr, exK_eq, x_ret, retK_eq, x_retn, x_iff, iffK_t, iffK_f, x_fo, x_pas, x_par, runK_nx, runK_rt, bindE_some, bindL_some, bindO_some, bindI_some, bindB_some, liftB_some, retV_some, asB_bl, bin1_eq, e_bin, cmpK_eq, cmp1_eq, e_cmp, cmpR_t, cmpR_f, cmp2a_eq, e_cmp2, cmpR3_t, cmpR3_f, cmp3a_eq, e_cmp3, e_and, e_or, andK_t, andK_f, orK_t, orK_f, bOut_eq, notK_eq, e_not, negK_int, e_neg, iteK_t, iteK_f, e_ite, tupK2_eq, e_tup, lstK_eq, e_lst, e_dct0, ixK_eq, ix1_eq, e_ix, sl1_eq, sl2_eq, e_sl, e_rev, o_no, o_ex, oK_int, e_call, e_bi, e_me, s_nil, s_cons, consA_eq, consB_eq, e_lit, e_glob, e_var0, e_varS, e_comp, i_range1, i_range2, r2a_eq, i_val, vK_tup, vK_str, t_lit, t_cmp, t_cmp2, t_cmp3, t_call, t_bi, t_var, t_and, t_or, t_not, andT_t, andT_f, orT_t, orT_f, notT_eq, v_add, v_sub, c_lt, c_le, c_gt, c_ge, c_eqI, c_neI, c_eqS, c_neS, c_isN, c_isnotN, c_isB, c_isnotB, x_tup, x_lstV, sl_lstV, sl_tup, b_lenT, b_lenV, decide_true, decide_false, Bool.not_true, Bool.not_false, List.length_map, r1K_int sm, Int.toNat_natCast, ec]
structure Wi (F : Fns) : Prop where
  chk : ∀ (h : CH) (r : Int), 1 ≤ r ∧ r ≤ 40 → F 138 [.int r] h = some (.non, h)
  ahead : ∀ (h : CH) (r : Nat) (ds : List Dd), Story ds → ds.length ≤ 150 → ∃ (g : Nat) (rs : List Nat) (A : List (List Nat)) (h' : CH), F 142 [.tup (ds.map Dd.cv), .int (r : Int)] h = some (.ref g, h') ∧ LLs h' g rs A ∧ AOk r ds A ∧ (∀ x ∈ rs, h.length ≤ x) ∧ h.length ≤ g ∧ Off [] h h' ∧ ∀ i, (A.getD i []).length ≤ 100000
  round : ∀ (h : CH) (g dn r : Nat) (rs : List Nat) (A : List (List Nat)) (ds : List Dd) (done : List Nat), LLs h g rs A → AOk r ds A → (∀ i, (A.getD i []).length ≤ 100000) → h[dn]? = some (.lst (done.map nI)) → (∃ w, w < ds.length ∧ w ∉ done) → frees A done = [] → ds.length ≤ 150 → ∃ (ts : List Nat) (h' : CH), F 143 [.ref g, .ref dn] h = some (.tup (ts.map nI), h') ∧ Rnd r ds ts ∧ Off [] h h'
theorem undone {n : Nat} {o : List Nat} (h : o.length < n) (nd : o.Nodup) : ∃ w, w < n ∧ w ∉ o := by
  refine Classical.byContradiction fun z => ?_
  have : ∀ w ∈ List.range n, w ∈ o := fun w hw => Classical.byContradiction fun y => z ⟨w, List.mem_range.mp hw, y⟩
  have h2 := nodup_len List.nodup_range this
  rw [List.length_range] at h2
  omega
theorem body_stuck (F : Fns) (W : Nat) {g dn r : Nat} {ds : List Dd} {x4 : Option CV} {ts : List Nat} {h h1 h3 : CH} (ef : evalC F frE [some (.tup (ds.map Dd.cv)), some (.int (r : Int)), some (.ref g), some (.ref dn), x4, none, none, none] h = some (.ref h1.length, h1 ++ [.lst []]))
    (e3 : F 143 [.ref g, .ref dn] (h1 ++ [CO.lst []] ++ [CO.lst []]) = some (.tup (ts.map nI), h3)) :
    execCs F W in144 [some (.tup (ds.map Dd.cv)), some (.int (r : Int)), some (.ref g), some (.ref dn), x4, none, none, none] h = some (.rt (.tup [.str rndS, .tup (ts.map nI)]), [some (.tup (ds.map Dd.cv)), some (.int (r : Int)), some (.ref g), some (.ref dn), some (.ref h1.length), none, none, none], h3) := by
  have eq := eq_nI (h := h1 ++ [CO.lst []] ++ [CO.lst []]) (x := []) (y := []) (get_app get_new) get_new
  rw [decide_eq_true (show ([] : List Nat) = [] from rfl)] at eq
  unfold rndS
  simp only [in144, run_eq, List.length_cons, List.length_nil, List.map_cons, List.map_nil, List.cons_append, List.nil_append, List.replicate, List.set_cons_zero, List.set_cons_succ, x_cons, x_nil, seqC_nx, seqC_rt, x_asg, asgK_nm, asgK_sub, retS_some, retH_some, sub1_eq, sub2_eq, x_expr, exK_eq, x_ret, retK_eq, x_retn, x_iff, iffK_t, iffK_f, x_fo, x_pas, x_par, runK_nx, runK_rt, bindE_some, bindL_some, bindO_some, bindI_some, bindB_some, liftB_some, retV_some, asB_bl, bin1_eq, e_bin, cmpK_eq, cmp1_eq, e_cmp, cmpR_t, cmpR_f, cmp2a_eq, e_cmp2, cmpR3_t, cmpR3_f, cmp3a_eq, e_cmp3, e_and, e_or, andK_t, andK_f, orK_t, orK_f, bOut_eq, notK_eq, e_not, negK_int, e_neg, iteK_t, iteK_f, e_ite, tupK2_eq, e_tup, lstK_eq, e_lst, e_dct0, ixK_eq, ix1_eq, e_ix, sl1_eq, sl2_eq, e_sl, e_rev, o_no, o_ex, oK_int, e_call, e_bi, e_me, s_nil, s_cons, consA_eq, consB_eq, e_lit, e_glob, e_var0, e_varS, e_comp, i_range1, i_range2, r2a_eq, i_val, vK_tup, vK_str, t_lit, t_cmp, t_cmp2, t_cmp3, t_call, t_bi, t_var, t_and, t_or, t_not, andT_t, andT_f, orT_t, orT_f, notT_eq, v_add, v_sub, c_lt, c_le, c_gt, c_ge, c_eqI, c_neI, c_eqS, c_neS, c_isN, c_isnotN, c_isB, c_isnotB, x_tup, x_lstV, sl_lstV, sl_tup, b_lenT, b_lenV, decide_true, decide_false, Bool.not_true, Bool.not_false, ef, c_eq eq, e3]
theorem body_go (F : Fns) (W : Nat) {g dn r k : Nat} {ds : List Dd} {x4 : Option CV} {ks done : List Nat} {h h1 : CH} (ef : evalC F frE [some (.tup (ds.map Dd.cv)), some (.int (r : Int)), some (.ref g), some (.ref dn), x4, none, none, none] h = some (.ref h1.length, h1 ++ [.lst ((k :: ks).map nI)]))
    (gd2 : (h1 ++ [CO.lst ((k :: ks).map nI)] ++ [CO.lst []])[dn]? = some (.lst (done.map nI))) (hd : done.length ≤ 1000) :
    execCs F W in144 [some (.tup (ds.map Dd.cv)), some (.int (r : Int)), some (.ref g), some (.ref dn), x4, none, none, none] h = some (.nx, [some (.tup (ds.map Dd.cv)), some (.int (r : Int)), some (.ref g), some (.ref dn), some (.ref h1.length), none, none, none], (h1 ++ [CO.lst ((k :: ks).map nI)] ++ [CO.lst []]).set dn (.lst ((done ++ [k]).map nI))) := by
  have gf : (h1 ++ [CO.lst ((k :: ks).map nI)])[h1.length]? = some (.lst ((k :: ks).map nI)) := get_new
  have eq := eq_nI (h := h1 ++ [CO.lst ((k :: ks).map nI)] ++ [CO.lst []]) (x := k :: ks) (y := []) (get_app gf) get_new
  rw [decide_eq_false (show ¬ (k :: ks) = [] by simp)] at eq
  have hx : ixV (.ref h1.length) (.int 0) (h1 ++ [CO.lst ((k :: ks).map nI)] ++ [CO.lst []]) = some (nI k) := by rw [x_lst (get_app gf), List.map_cons, at0]
  have ap := m_append (v := nI k) gd2 (lim_lt (by rw [List.length_map]; omega))
  rw [m_appR] at ap
  have em : done.map nI ++ [nI k] = (done ++ [k]).map nI := by rw [List.map_append]; rfl
  rw [em] at ap
  generalize (k :: ks).map nI = zs at *
  generalize (done ++ [k]).map nI = ys at *
  simp only [in144, run_eq, List.length_cons, List.length_nil, List.map_cons, List.map_nil, List.cons_append, List.nil_append, List.replicate, List.set_cons_zero, List.set_cons_succ, x_cons, x_nil, seqC_nx, seqC_rt, x_asg, asgK_nm, asgK_sub, retS_some, retH_some, sub1_eq, sub2_eq, x_expr, exK_eq, x_ret, retK_eq, x_retn, x_iff, iffK_t, iffK_f, x_fo, x_pas, x_par, runK_nx, runK_rt, bindE_some, bindL_some, bindO_some, bindI_some, bindB_some, liftB_some, retV_some, asB_bl, bin1_eq, e_bin, cmpK_eq, cmp1_eq, e_cmp, cmpR_t, cmpR_f, cmp2a_eq, e_cmp2, cmpR3_t, cmpR3_f, cmp3a_eq, e_cmp3, e_and, e_or, andK_t, andK_f, orK_t, orK_f, bOut_eq, notK_eq, e_not, negK_int, e_neg, iteK_t, iteK_f, e_ite, tupK2_eq, e_tup, lstK_eq, e_lst, e_dct0, ixK_eq, ix1_eq, e_ix, sl1_eq, sl2_eq, e_sl, e_rev, o_no, o_ex, oK_int, e_call, e_bi, e_me, s_nil, s_cons, consA_eq, consB_eq, e_lit, e_glob, e_var0, e_varS, e_comp, i_range1, i_range2, r2a_eq, i_val, vK_tup, vK_str, t_lit, t_cmp, t_cmp2, t_cmp3, t_call, t_bi, t_var, t_and, t_or, t_not, andT_t, andT_f, orT_t, orT_f, notT_eq, v_add, v_sub, c_lt, c_le, c_gt, c_ge, c_eqI, c_neI, c_eqS, c_neS, c_isN, c_isnotN, c_isB, c_isnotB, x_tup, x_lstV, sl_lstV, sl_tup, b_lenT, b_lenV, decide_true, decide_false, Bool.not_true, Bool.not_false, ef, c_eq eq, me1_eq (r_append gd2), hx, m_appR, ap]
theorem wh_t {test : Env → CH → Option (Bool × CH)} {body : Env → CH → Option (Fl × Env × CH)} {n : Nat} {s s2 : Env} {h h1 h2 : CH} (e1 : test s h = some (true, h1)) (e2 : body s h1 = some (.nx, s2, h2)) : whGo test body (n + 1) s h = whGo test body n s2 h2 := by
  rw [whGo, e1]
  simp only [e2]
theorem wh_r {test : Env → CH → Option (Bool × CH)} {body : Env → CH → Option (Fl × Env × CH)} {n : Nat} {s s2 : Env} {h h1 h2 : CH} {v : CV} (e1 : test s h = some (true, h1)) (e2 : body s h1 = some (.rt v, s2, h2)) : whGo test body (n + 1) s h = some (.rt v, s2, h2) := by
  rw [whGo, e1]
  simp only [e2]
theorem wh_f {test : Env → CH → Option (Bool × CH)} {body : Env → CH → Option (Fl × Env × CH)} {n : Nat} {s : Env} {h h1 : CH} (e1 : test s h = some (false, h1)) : whGo test body (n + 1) s h = some (.nx, s, h1) := by
  rw [whGo, e1]
theorem tst_ev (F : Fns) {g dn r : Nat} {ds : List Dd} {x4 : Option CV} {done : List Nat} {h : CH} (gd : h[dn]? = some (.lst (done.map nI))) : testC F tst144 [some (.tup (ds.map Dd.cv)), some (.int (r : Int)), some (.ref g), some (.ref dn), x4, none, none, none] h = some (decide (done.length < ds.length), h) := by
  have bl := b_lenL gd
  rw [List.length_map] at bl
  have : decide ((done.length : Int) < (ds.length : Int)) = decide (done.length < ds.length) := decide_eq_decide.mpr (by omega)
  simp only [tst144, run_eq, List.length_cons, List.length_nil, List.map_cons, List.map_nil, List.cons_append, List.nil_append, List.replicate, List.set_cons_zero, List.set_cons_succ, x_cons, x_nil, seqC_nx, seqC_rt, x_asg, asgK_nm, asgK_sub, retS_some, retH_some, sub1_eq, sub2_eq, x_expr, exK_eq, x_ret, retK_eq, x_retn, x_iff, iffK_t, iffK_f, x_fo, x_pas, x_par, runK_nx, runK_rt, bindE_some, bindL_some, bindO_some, bindI_some, bindB_some, liftB_some, retV_some, asB_bl, bin1_eq, e_bin, cmpK_eq, cmp1_eq, e_cmp, cmpR_t, cmpR_f, cmp2a_eq, e_cmp2, cmpR3_t, cmpR3_f, cmp3a_eq, e_cmp3, e_and, e_or, andK_t, andK_f, orK_t, orK_f, bOut_eq, notK_eq, e_not, negK_int, e_neg, iteK_t, iteK_f, e_ite, tupK2_eq, e_tup, lstK_eq, e_lst, e_dct0, ixK_eq, ix1_eq, e_ix, sl1_eq, sl2_eq, e_sl, e_rev, o_no, o_ex, oK_int, e_call, e_bi, e_me, s_nil, s_cons, consA_eq, consB_eq, e_lit, e_glob, e_var0, e_varS, e_comp, i_range1, i_range2, r2a_eq, i_val, vK_tup, vK_str, t_lit, t_cmp, t_cmp2, t_cmp3, t_call, t_bi, t_var, t_and, t_or, t_not, andT_t, andT_f, orT_t, orT_f, notT_eq, v_add, v_sub, c_lt, c_le, c_gt, c_ge, c_eqI, c_neI, c_eqS, c_neS, c_isN, c_isnotN, c_isB, c_isnotB, x_tup, x_lstV, sl_lstV, sl_tup, b_lenT, b_lenV, decide_true, decide_false, Bool.not_true, Bool.not_false, bl, List.length_map, this]
def WiOut (r : Nat) (ds : List Dd) (g dn : Nat) (fl : Fl) (s' : Env) (h' : CH) : Prop :=
  (∃ o x4', fl = .nx ∧ s' = [some (.tup (ds.map Dd.cv)), some (.int (r : Int)), some (.ref g), some (.ref dn), x4', none, none, none] ∧ Topo r ds o ∧ h'[dn]? = some (.lst (o.map nI))) ∨ ∃ ts, fl = .rt (.tup [.str rndS, .tup (ts.map nI)]) ∧ Rnd r ds ts
theorem within_loop (F : Fns) (W : Nat) (H : Wi F) {g dn r : Nat} {rs : List Nat} {A : List (List Nat)} {ds : List Dd} (ok : AOk r ds A) (hsz : ∀ i, (A.getD i []).length ≤ 100000) (hl : ds.length ≤ 150) (hdg : dn ≠ g) (hdr : dn ∉ rs) : ∀ (f n : Nat) (done : List Nat) (x4 : Option CV) (h : CH), LLs h g rs A → h[dn]? = some (.lst (done.map nI)) → GoodD r ds done → done.length + f = ds.length → f < n →
    ∃ fl s' h', whGo (testC F tst144) (execCs F W in144) n [some (.tup (ds.map Dd.cv)), some (.int (r : Int)), some (.ref g), some (.ref dn), x4, none, none, none] h = some (fl, s', h') ∧ Off [dn] h h' ∧ WiOut r ds g dn fl s' h' := by
  intro f
  induction f with
  | zero =>
    intro n done x4 h L gd G hf hn
    cases n with
    | zero => omega
    | succ n =>
      have et := tst_ev F (g := g) (r := r) (ds := ds) (x4 := x4) gd
      rw [decide_eq_false (by omega)] at et
      exact ⟨.nx, _, h, wh_f et, .refl _ _, .inl ⟨done, x4, rfl, rfl, ⟨G.nd, G.lt, by omega, G.ord⟩, gd⟩⟩
  | succ f ih =>
    intro n done x4 h L gd G hf hn
    cases n with
    | zero => omega
    | succ n =>
      have et := tst_ev F (g := g) (r := r) (ds := ds) (x4 := x4) gd
      rw [decide_eq_true (by omega)] at et
      obtain ⟨h1, ef, o1⟩ := free_ev F (x1 := some (.int (r : Int))) (x4 := x4) (x7 := none) (r := r) L ok.1 hsz gd hl
      cases hfr : frees A done with
      | nil =>
        rw [hfr] at ef
        have o2 : Off [] h (h1 ++ [CO.lst []] ++ [CO.lst []]) := (o1.trans (Off.app _ _ _)).trans (Off.app _ _ _)
        obtain ⟨ts, h3, e3, R3, o3⟩ := H.round _ g dn r rs A ds done (L.off o2 (by simp) (by simp)) ok hsz (o2.get gd (by simp)) (undone (by omega) G.nd) hfr hl
        exact ⟨_, _, h3, wh_r et (body_stuck F W ef e3), (o2.trans o3).mono (by simp), .inr ⟨ts, rfl, R3⟩⟩
      | cons k ks =>
        rw [hfr] at ef
        have o2 : Off [] h (h1 ++ [CO.lst ((k :: ks).map nI)] ++ [CO.lst []]) := (o1.trans (Off.app _ _ _)).trans (Off.app _ _ _)
        have gd2 := o2.get gd (by simp)
        have L2 := L.off o2 (by simp) (by simp)
        have hk : k ∈ frees A done := by rw [hfr]; exact List.mem_cons_self
        obtain ⟨hk1, hk2⟩ := frees_mem.mp hk
        have o3 : Off [dn] h ((h1 ++ [CO.lst ((k :: ks).map nI)] ++ [CO.lst []]).set dn (.lst ((done ++ [k]).map nI))) := (o2.mono (by simp)).trans (Off.set (by simp))
        have L3 := L2.off (S := [dn]) (Off.set (i := dn) (o := .lst ((done ++ [k]).map nI)) (by simp)) (by simpa using Ne.symm hdg) (fun x hx => by simp; rintro rfl; exact hdr hx)
        obtain ⟨fl, s', h', e, o, res⟩ := ih n (done ++ [k]) (some (.ref h1.length)) _ L3 (List.getElem?_set_self (lt_of gd2)) (G.snoc ok (by rw [← ok.1]; exact hk1) hk2) (by simp; omega) (by omega)
        exact ⟨fl, s', h', (wh_t et (body_go F W ef gd2 (by omega))).trans e, o3.trans o, res⟩
theorem run_within (F : Fns) (W : Nat) (hW : 1000 < W) (H : Wi F) {h : CH} {r : Nat} {ds : List Dd} (S : Story ds) (hl : ds.length ≤ 150) (hr : 1 ≤ r ∧ r ≤ 40) : ∃ (v : CV) (h' : CH), runC F W n144.length b144 [.tup (ds.map Dd.cv), .int (r : Int)] h = some (v, h') ∧ Within r ds v ∧ Off [] h h' := by
  have ec := H.chk h (r : Int) (by omega)
  obtain ⟨g, rs, A, h1, ea, L, ok, hrs, hg, o1, hsz⟩ := H.ahead h r ds S hl
  have lg := lt_of L.cell
  have L1 : LLs (h1 ++ [CO.lst []]) g rs A := L.off (Off.app [] _ _) (by simp) (by simp)
  have lr : h1.length ∉ rs := fun z => by
    obtain ⟨q, hq⟩ := List.getElem?_of_mem z
    have hql := (List.getElem?_eq_some_iff.mp hq).1
    have := lt_of (L.row q _ _ hq (List.getElem?_eq_getElem (by rw [← L.len]; exact hql)))
    omega
  obtain ⟨fl, s', h', e, o, res⟩ := within_loop F W H ok hsz hl (by omega) lr ds.length W [] none (h1 ++ [CO.lst []]) L1 get_new GoodD.nil (by simp) (by omega)
  have o2 : Off [] h h' := by
    have o3 : Off [h1.length] h h' := ((o1.mono (by simp)).trans (Off.app _ _ _)).trans o
    have := o1.len
    exact ⟨o3.len, fun i hi _ => o3.at' i hi (by simp; omega)⟩
  unfold tst144 in144 frE at e
  rcases res with ⟨ord, x4', rfl, rfl, T, gd⟩ | ⟨ts, rfl, R⟩
  · have et := comp_all (F := F) (s := [some (.tup (ds.map Dd.cv)), some (.int (r : Int)), some (.ref g), some (.ref h1.length), x4', none, none, none]) (h := h') (elt := .ix (.var 0) (.var 7)) (i := 7) (src := .cell h1.length) (xs := ord.map nI)
      (fun v => (dat ds (nv v)).cv) (fun i => src_cell gd) (src_cellL gd) (by rw [List.length_map, T.len]; exact lim_big (by omega)) (fun v hv => by
        obtain ⟨n, hn, rfl⟩ := List.mem_map.mp hv
        rw [nv_nI]
        have := at_row (dat_at (T.lt n hn))
        rw [show nI n = .int (n : Int) from rfl]
        simp only [run_eq, List.length_cons, List.length_nil, List.map_cons, List.map_nil, List.cons_append, List.nil_append, List.replicate, List.set_cons_zero, List.set_cons_succ, x_cons, x_nil, seqC_nx, seqC_rt, x_asg, asgK_nm, asgK_sub, retS_some, retH_some, sub1_eq, sub2_eq, x_expr, exK_eq, x_ret, retK_eq, x_retn, x_iff, iffK_t, iffK_f, x_fo, x_pas, x_par, runK_nx, runK_rt, bindE_some, bindL_some, bindO_some, bindI_some, bindB_some, liftB_some, retV_some, asB_bl, bin1_eq, e_bin, cmpK_eq, cmp1_eq, e_cmp, cmpR_t, cmpR_f, cmp2a_eq, e_cmp2, cmpR3_t, cmpR3_f, cmp3a_eq, e_cmp3, e_and, e_or, andK_t, andK_f, orK_t, orK_f, bOut_eq, notK_eq, e_not, negK_int, e_neg, iteK_t, iteK_f, e_ite, tupK2_eq, e_tup, lstK_eq, e_lst, e_dct0, ixK_eq, ix1_eq, e_ix, sl1_eq, sl2_eq, e_sl, e_rev, o_no, o_ex, oK_int, e_call, e_bi, e_me, s_nil, s_cons, consA_eq, consB_eq, e_lit, e_glob, e_var0, e_varS, e_comp, i_range1, i_range2, r2a_eq, i_val, vK_tup, vK_str, t_lit, t_cmp, t_cmp2, t_cmp3, t_call, t_bi, t_var, t_and, t_or, t_not, andT_t, andT_f, orT_t, orT_f, notT_eq, v_add, v_sub, c_lt, c_le, c_gt, c_ge, c_eqI, c_neI, c_eqS, c_neS, c_isN, c_isnotN, c_isB, c_isnotB, x_tup, x_lstV, sl_lstV, sl_tup, b_lenT, b_lenV, decide_true, decide_false, Bool.not_true, Bool.not_false, this])
    have em : (ord.map nI).map (fun v => (dat ds (nv v)).cv) = (rowOf ds ord).map Dd.cv := by
      unfold rowOf
      rw [List.map_map, List.map_map]
      exact List.map_congr_left fun n _ => by simp only [Function.comp, nv_nI]
    rw [em] at et
    have tp := b_tupL (get_new (h := h') (o := CO.lst ((rowOf ds ord).map Dd.cv)))
    refine ⟨.tup [.str rowS, .tup ((rowOf ds ord).map Dd.cv)], h' ++ [CO.lst ((rowOf ds ord).map Dd.cv)], ?_, .inl ⟨ord, T, rfl⟩, o2.trans (Off.app _ _ _)⟩
    unfold rowS
    simp only [b144, n144, run_eq, List.length_cons, List.length_nil, List.map_cons, List.map_nil, List.cons_append, List.nil_append, List.replicate, List.set_cons_zero, List.set_cons_succ, x_cons, x_nil, seqC_nx, seqC_rt, x_asg, asgK_nm, asgK_sub, retS_some, retH_some, sub1_eq, sub2_eq, x_expr, exK_eq, x_ret, retK_eq, x_retn, x_iff, iffK_t, iffK_f, x_fo, x_pas, x_par, runK_nx, runK_rt, bindE_some, bindL_some, bindO_some, bindI_some, bindB_some, liftB_some, retV_some, asB_bl, bin1_eq, e_bin, cmpK_eq, cmp1_eq, e_cmp, cmpR_t, cmpR_f, cmp2a_eq, e_cmp2, cmpR3_t, cmpR3_f, cmp3a_eq, e_cmp3, e_and, e_or, andK_t, andK_f, orK_t, orK_f, bOut_eq, notK_eq, e_not, negK_int, e_neg, iteK_t, iteK_f, e_ite, tupK2_eq, e_tup, lstK_eq, e_lst, e_dct0, ixK_eq, ix1_eq, e_ix, sl1_eq, sl2_eq, e_sl, e_rev, o_no, o_ex, oK_int, e_call, e_bi, e_me, s_nil, s_cons, consA_eq, consB_eq, e_lit, e_glob, e_var0, e_varS, e_comp, i_range1, i_range2, r2a_eq, i_val, vK_tup, vK_str, t_lit, t_cmp, t_cmp2, t_cmp3, t_call, t_bi, t_var, t_and, t_or, t_not, andT_t, andT_f, orT_t, orT_f, notT_eq, v_add, v_sub, c_lt, c_le, c_gt, c_ge, c_eqI, c_neI, c_eqS, c_neS, c_isN, c_isnotN, c_isB, c_isnotB, x_tup, x_lstV, sl_lstV, sl_tup, b_lenT, b_lenV, decide_true, decide_false, Bool.not_true, Bool.not_false, ec, ea, x_wh, e, vK_lst gd, et, tp]
  · refine ⟨.tup [.str rndS, .tup (ts.map nI)], h', ?_, .inr ⟨ts, R, rfl⟩, o2⟩
    simp only [b144, n144, run_eq, List.length_cons, List.length_nil, List.map_cons, List.map_nil, List.cons_append, List.nil_append, List.replicate, List.set_cons_zero, List.set_cons_succ, x_cons, x_nil, seqC_nx, seqC_rt, x_asg, asgK_nm, asgK_sub, retS_some, retH_some, sub1_eq, sub2_eq, x_expr, exK_eq, x_ret, retK_eq, x_retn, x_iff, iffK_t, iffK_f, x_fo, x_pas, x_par, runK_nx, runK_rt, bindE_some, bindL_some, bindO_some, bindI_some, bindB_some, liftB_some, retV_some, asB_bl, bin1_eq, e_bin, cmpK_eq, cmp1_eq, e_cmp, cmpR_t, cmpR_f, cmp2a_eq, e_cmp2, cmpR3_t, cmpR3_f, cmp3a_eq, e_cmp3, e_and, e_or, andK_t, andK_f, orK_t, orK_f, bOut_eq, notK_eq, e_not, negK_int, e_neg, iteK_t, iteK_f, e_ite, tupK2_eq, e_tup, lstK_eq, e_lst, e_dct0, ixK_eq, ix1_eq, e_ix, sl1_eq, sl2_eq, e_sl, e_rev, o_no, o_ex, oK_int, e_call, e_bi, e_me, s_nil, s_cons, consA_eq, consB_eq, e_lit, e_glob, e_var0, e_varS, e_comp, i_range1, i_range2, r2a_eq, i_val, vK_tup, vK_str, t_lit, t_cmp, t_cmp2, t_cmp3, t_call, t_bi, t_var, t_and, t_or, t_not, andT_t, andT_f, orT_t, orT_f, notT_eq, v_add, v_sub, c_lt, c_le, c_gt, c_ge, c_eqI, c_neI, c_eqS, c_neS, c_isN, c_isnotN, c_isB, c_isnotB, x_tup, x_lstV, sl_lstV, sl_tup, b_lenT, b_lenV, decide_true, decide_false, Bool.not_true, Bool.not_false, ec, ea, x_wh, e]
end TH

namespace TH
open PySem
end TH

namespace TH
open PySem
def Dd.t (d : Dd) : List (List Nat) := [kd d.s, d.a, d.b, d.c]
end TH

namespace TH
open PySem
def LA (F : Fns) : Prop := ∀ (h : CH) (ds : List Dd) (i j r : Nat), ds.length ≤ 1000 → Ahd r ds i j → ∃ h', F 229 [.tup (ds.map Dd.cv), nI i, nI j, .int (r : Int)] h = some (.bl true, h') ∧ Off [] h h'
structure Rg (F : Fns) : Prop where
  within : ∀ (h : CH) (r : Nat) (ds : List Dd), Story ds → ds.length ≤ 150 → 1 ≤ r ∧ r ≤ 40 → ∃ (v : CV) (h' : CH), F 144 [.tup (ds.map Dd.cv), .int (r : Int)] h = some (v, h') ∧ Within r ds v ∧ Off [] h h'
  round : ∀ (h : CH) (ds : List Dd) (ts : List Nat) (r : Nat), ds.length ≤ 1000 → Rnd r ds ts → ∃ h', F 230 [.tup (ds.map Dd.cv), .tup (ts.map nI), .int (r : Int)] h = some (.bl true, h') ∧ Off [] h h'
  can : ∀ (h : CH) (ds : List Dd), ds.length ≤ 1000 → ∃ h', F 227 [.tup (ds.map Dd.cv)] h = some (.bl (canW [] ds), h') ∧ Off [] h h'
  alike : ∀ (h : CH) (xs ys : List Dd), xs.length ≤ 400 → ys.length ≤ 400 → (∀ x, xs.filter (ownB x) = ys.filter (ownB x)) → ∃ h', F 226 [.tup (xs.map Dd.cv), .tup (ys.map Dd.cv)] h = some (.bl true, h') ∧ Off [] h h'
  most : ∀ (h : CH) (ds : List Dd), ds.length ≤ 1000 → ∃ h', F 220 [.tup (ds.map Dd.cv)] h = some (.int (mostFrom 0 [] ds), h') ∧ Off [] h h'
/-! ### k22 -/
structure Rl22 (F : Fns) : Prop where
  pack : ∀ (h : CH) (ns : List Int) (k : Nat), k ≤ 100 → (∀ z ∈ ns, z.natAbs < 2 ^ 1048576) → ∃ h', F 217 [.lst (ns.map CV.int), .int (k : Int)] h = some (.ref h.length, h') ∧ Off [] h h' ∧ Pk h' h.length
  hands : ∀ (h : CH) (p : Nat), Pk h p → ∃ (r : Nat) (ks : List (List Nat)) (h' : CH), F 218 [.ref p] h = some (.ref r, h') ∧ h'[r]? = some (.lst (ks.map .str)) ∧ 2 ≤ ks.length ∧ ks.length ≤ 4 ∧ h.length ≤ r ∧ Off [p] h h' ∧ Pk h' p
  story : ∀ (h : CH) (p r : Nat) (hs : List (List Nat)), Pk h p → h[r]? = some (.lst (hs.map .str)) → 2 ≤ hs.length ∧ hs.length ≤ 1000 → r ≠ p → ∃ (ds : List Dd) (h' : CH), F 219 [.ref p, .ref r, .int 6] h = some (.tup (ds.map Dd.cv), h') ∧ ds.length ≤ 12 ∧ Story ds ∧ Off [p] h h' ∧ Pk h' p
  right : ∀ (h : CH) (ds : List Dd) (r : Nat), Story ds → ds.length ≤ 150 → 1 ≤ r ∧ r ≤ 40 → ∃ h', F 231 [.tup (ds.map Dd.cv), .int (r : Int)] h = some (.bl true, h') ∧ Off [] h h'
end TH

/-! Rows that do as the story's views say, as far as they go; which rooms let a story go. -/
namespace TH
open PySem
/-- the numbers of a row's deeds, hand by hand -/
inductive Ord (ds : List Dd) : List Dd → List Nat → Prop
  | nil : Ord ds [] []
  | snoc {fd : List Dd} {o : List Nat} {d : Dd} {i : Nat} : Ord ds fd o → (ixs ds (ownB (hof d)))[fd.countP (ownB (hof d))]? = some i → dat ds i = d → Ord ds (fd ++ [d]) (o ++ [i])
section
variable {ds fd : List Dd} {o : List Nat}
theorem Ord.len (h : Ord ds fd o) : o.length = fd.length := by
  induction h with
  | nil => rfl
  | snoc _ _ _ ih => simp [ih]
theorem Ord.row (h : Ord ds fd o) : rowOf ds o = fd := by
  induction h with
  | nil => rfl
  | snoc _ _ e ih =>
    unfold rowOf at ih ⊢
    rw [List.map_append, ih]
    simp [e]
theorem Ord.lt (h : Ord ds fd o) : ∀ i ∈ o, i < ds.length := by
  induction h with
  | nil => intro i hi; cases hi
  | snoc _ g _ ih =>
    intro j hj
    rcases List.mem_append.mp hj with z | z
    · exact ih j z
    · rw [List.mem_singleton.mp z]; exact ixs_lt (List.mem_of_getElem? g)
theorem Ord.own (h : Ord ds fd o) (x : List Nat) : o.filter (atP ds (ownB x)) = (ixs ds (ownB x)).take (fd.countP (ownB x)) := by
  induction h with
  | nil => simp
  | @snoc fd o d i _ g e ih =>
    rw [List.filter_append, ih, List.countP_append]
    have hat : atP ds (ownB x) i = ownB x d := by rw [atP_some (dat_at (ixs_lt (List.mem_of_getElem? g))), e]
    cases hx : ownB x d with
    | false => simp [hat, hx]
    | true =>
      have : x = hof d := (of_decide_eq_true hx).symm
      subst this
      simp only [List.filter_cons, hat, hx, if_true, List.filter_nil, List.countP_cons, List.countP_nil, Nat.zero_add]
      rw [List.take_add_one, g]
      rfl
theorem Ord.nd (h : Ord ds fd o) : o.Nodup := by
  induction h with
  | nil => exact List.nodup_nil
  | @snoc fd o d i h g e ih =>
    rw [List.nodup_append]
    refine ⟨ih, by simp, fun a ha b hb eab => ?_⟩
    rw [List.mem_singleton.mp hb] at eab
    subst eab
    have hm : a ∈ o.filter (atP ds (ownB (hof d))) := List.mem_filter.mpr ⟨ha, mem_ixs.mp (List.mem_of_getElem? g)⟩
    rw [h.own] at hm
    have := mem_take_ix (ixs_nodup _ _) g hm
    omega
theorem Ord.cut (h : Ord ds fd o) : ∀ pre i post, o = pre ++ i :: post → ∃ P d Q, fd = P ++ d :: Q ∧ Ord ds P pre ∧ Ord ds (P ++ [d]) (pre ++ [i]) ∧ dat ds i = d ∧ (ixs ds (ownB (hof d)))[P.countP (ownB (hof d))]? = some i := by
  induction h with
  | nil => intro pre i post e; cases pre <;> cases e
  | @snoc fd o d i h g e ih =>
    intro pre j post eo
    rcases List.eq_nil_or_concat post with rfl | ⟨post, b, rfl⟩
    · obtain ⟨rfl, e2⟩ := List.append_inj' eo rfl
      cases e2
      exact ⟨fd, d, [], rfl, h, .snoc h g e, e, g⟩
    · have e' : o ++ [i] = (pre ++ j :: post) ++ [b] := by rw [eo]; simp
      obtain ⟨rfl, _⟩ := List.append_inj' e' rfl
      obtain ⟨P, d', Q, h1, h2⟩ := ih pre j post rfl
      exact ⟨P, d', Q ++ [d], by rw [h1]; simp, h2⟩
theorem ord_ex : ∀ (fd : List Dd), (∀ x, fd.filter (ownB x) <+: ds.filter (ownB x)) → ∃ o, Ord ds fd o := by
  have key : ∀ n (fd : List Dd), fd.length = n → (∀ x, fd.filter (ownB x) <+: ds.filter (ownB x)) → ∃ o, Ord ds fd o := by
    intro n
    induction n with
    | zero => intro fd e _; rw [List.eq_nil_of_length_eq_zero e]; exact ⟨[], .nil⟩
    | succ n ih =>
      intro fd e h
      rcases List.eq_nil_or_concat fd with rfl | ⟨fd, d, rfl⟩
      · simp at e
      · obtain ⟨o, ho⟩ := ih fd (by simpa using e) fun x => by
          have := h x
          rw [List.concat_eq_append, List.filter_append] at this
          exact (List.prefix_append _ _).trans this
        have hd := h (hof d)
        rw [List.concat_eq_append, List.filter_append] at hd
        have h1 : [d].filter (ownB (hof d)) = [d] := by simp [ownB]
        rw [h1] at hd
        obtain ⟨t, ht⟩ := hd
        have hc : fd.countP (ownB (hof d)) = (fd.filter (ownB (hof d))).length := List.countP_eq_length_filter
        have hg : (ds.filter (ownB (hof d)))[fd.countP (ownB (hof d))]? = some d := by
          rw [← ht, hc, List.append_assoc, List.getElem?_append_right (Nat.le_refl _), Nat.sub_self]; rfl
        rw [← ixs_row] at hg
        unfold rowOf at hg
        rw [List.getElem?_map, Option.map_eq_some_iff] at hg
        obtain ⟨i, g1, g2⟩ := hg
        rw [List.concat_eq_append]
        exact ⟨o ++ [i], .snoc ho g1 g2⟩
  exact fun fd h => key fd.length fd rfl h
theorem Ord.kind (h : Ord ds fd o) (s : Bool) (x y : List Nat) : o.filter (atP ds (isK s x y)) = (ixs ds (isK s x y)).take (fd.countP (isK s x y)) := by
  obtain ⟨t', h1, h2⟩ := filter_take (atP ds (isK s x y)) (ixs ds (ownB (who s x y))) (fd.countP (ownB (who s x y)))
  rw [ixs_sub fun d h => isK_who h] at h1 h2
  rw [← h.own, List.filter_filter] at h2
  have e : o.filter (fun a => atP ds (isK s x y) a && atP ds (ownB (who s x y)) a) = o.filter (atP ds (isK s x y)) := List.filter_congr fun i _ => by
    unfold atP
    cases ds[i]? with
    | none => rfl
    | some d =>
      dsimp only
      cases hg : isK s x y d with
      | false => simp
      | true => simp [isK_who hg]
  rw [e] at h2
  have hl := congrArg List.length h2
  rw [List.length_take, Nat.min_eq_left h1] at hl
  have hr := rowOf_filter (f := isK s x y) h.lt
  rw [h.row] at hr
  have := congrArg List.length hr
  unfold rowOf at this
  rw [List.length_map, hl, ← List.countP_eq_length_filter] at this
  rw [h2, this]
end
theorem keepsFrom_at {r : Int} : ∀ {post pre A B : List Dd} {d : Dd}, keepsFrom r pre post = true → post = A ++ d :: B → cnt d.a d.b (pre ++ A ++ [d]) ≤ r
  | [], pre, A, B, d, _, e => by cases A <;> cases e
  | p :: post, pre, A, B, d, h, e => by
    rw [keepsFrom, Bool.and_eq_true, decide_eq_true_eq] at h
    cases A with
    | nil =>
      cases e
      simpa using h.1
    | cons a A =>
      obtain ⟨rfl, e2⟩ := List.cons.inj e
      have := keepsFrom_at h.2 e2
      simpa using this
theorem keepsFrom_of {r : Int} : ∀ {post pre : List Dd}, (∀ A d B, post = A ++ d :: B → cnt d.a d.b (pre ++ A ++ [d]) ≤ r) → keepsFrom r pre post = true
  | [], _, _ => rfl
  | d :: post, pre, h => by
    rw [keepsFrom, Bool.and_eq_true, decide_eq_true_eq]
    refine ⟨by simpa using h [] d post rfl, keepsFrom_of fun A e B z => ?_⟩
    have := h (d :: A) e B (by rw [z]; rfl)
    simpa using this
/-- a row with the story's views that can go within rooms -/
def Goes (r : Nat) (ds : List Dd) : Prop := ∃ R, (∀ x, R.filter (ownB x) = ds.filter (ownB x)) ∧ CanR R ∧ keepsFrom (r : Int) [] R = true
theorem Goes.mono {r q : Nat} {ds : List Dd} (h : Goes r ds) (hq : r ≤ q) : Goes q ds := by
  obtain ⟨R, h1, h2, h3⟩ := h
  exact ⟨R, h1, h2, keepsFrom_of fun A d B e => by have := keepsFrom_at h3 e; omega⟩
theorem Goes.alike {r : Nat} {ds es : List Dd} (h : Goes r ds) (e : ∀ x, ds.filter (ownB x) = es.filter (ownB x)) : Goes r es := by
  obtain ⟨R, h1, h2, h3⟩ := h
  exact ⟨R, fun x => (h1 x).trans (e x), h2, h3⟩
theorem alike_perm {R ds : List Dd} (h : ∀ x, R.filter (ownB x) = ds.filter (ownB x)) : R.Perm ds := by
  rw [List.perm_iff_count]
  intro d
  have hd : ownB (hof d) d = true := by simp [ownB]
  have c : ∀ l : List Dd, l.count d = (l.filter (ownB (hof d))).count d := fun l => (List.count_filter hd).symm
  rw [c R, c ds, h]
theorem Topo.goes {r : Nat} {ds : List Dd} {o : List Nat} (T : Topo r ds o) (S : Story ds) : Goes r ds := ⟨rowOf ds o, T.view, T.can S, T.keeps S⟩
/-- such a row is an order -/
theorem goes_topo {r : Nat} {ds : List Dd} (S : Story ds) (h : Goes r ds) : ∃ o, Topo r ds o := by
  obtain ⟨R, hv, hc, hk⟩ := h
  obtain ⟨o, O⟩ := ord_ex (ds := ds) R fun x => by rw [hv x]; exact List.prefix_refl _
  refine ⟨o, O.nd, O.lt, O.len.trans (alike_perm hv).length_eq, fun pre i post e j ha => ?_⟩
  obtain ⟨P, d, Q, eR, OP, OPd, hd, hi⟩ := O.cut pre i post e
  have hc2 := hc (P ++ [d]) Q (by rw [eR]; simp)
  have hk2 := keepsFrom_at hk eR
  rw [List.nil_append, cnt_count] at hk2
  have inpre : ∀ f, j ∈ pre.filter f → j ∈ pre := fun f z => (List.mem_filter.mp z).1
  have mem_take : ∀ (K : List Nat) (k t : Nat), K[k]? = some j → k < t → j ∈ K.take t := fun K k t h1 h2 => List.mem_of_getElem? (i := k) (by rw [List.getElem?_take_of_lt h2]; exact h1)
  -- where i stands among its kind
  have kth : ∀ (s : Bool) (x y : List Nat) (k : Nat), (ixs ds (isK s x y))[k]? = some i → k = P.countP (isK s x y) ∧ isK s x y d = true := fun s x y k hk => by
    have hdk : isK s x y d = true := by
      obtain ⟨d', e1, e2⟩ := mem_ixs'.mp (List.mem_of_getElem? hk)
      rw [dat_some e1] at hd
      rw [← hd]; exact e2
    have h1 := OPd.kind s x y
    have h2 := OP.kind s x y
    have hat : atP ds (isK s x y) i = true := mem_ixs.mp (List.mem_of_getElem? hk)
    rw [List.filter_append, h2, List.countP_append] at h1
    simp only [List.filter_cons, hat, if_true, List.filter_nil, List.countP_cons, hdk, List.countP_nil, Nat.zero_add] at h1
    have hm : i ∈ (ixs ds (isK s x y)).take (P.countP (isK s x y) + 1) := by rw [← h1]; simp
    have hk1 := mem_take_ix (ixs_nodup _ _) hk hm
    have hn : ¬ k < P.countP (isK s x y) := fun z => by
      have hin : i ∈ (ixs ds (isK s x y)).take (P.countP (isK s x y)) := List.mem_of_getElem? (i := k) (by rw [List.getElem?_take_of_lt z]; exact hk)
      rw [← h2] at hin
      have hip := (List.mem_filter.mp hin).1
      have := O.nd
      rw [e, List.nodup_append] at this
      exact this.2.2 i hip i List.mem_cons_self rfl
    exact ⟨by omega, hdk⟩
  rcases ha with ⟨x, k, h1, h2⟩ | ⟨x, y, k, h1, h2⟩ | ⟨x, y, k, h1, h2⟩
  · have hx : hof d = x := by
      obtain ⟨d', e1, e2⟩ := mem_ixs'.mp (List.mem_of_getElem? h2)
      rw [dat_some e1] at hd
      rw [← hd]; exact of_decide_eq_true e2
    subst hx
    have := (List.getElem?_inj (h₀ := (List.getElem?_eq_some_iff.mp h2).1) (ixs_nodup _ _)).mp (h2.trans hi.symm)
    refine inpre (atP ds (ownB (hof d))) ?_
    rw [OP.own]
    exact mem_take _ k _ h1 (by omega)
  · obtain ⟨hk, hdk⟩ := kth false x y k h2
    have hp := (hc2 x y).length_le
    unfold wds at hp
    rw [List.length_map, List.length_map, ← List.countP_eq_length_filter, ← List.countP_eq_length_filter, List.countP_append, List.countP_append] at hp
    have hdt : isK true x y d = false := by
      have := (isK_own hdk).1
      rw [isK_one, this]; rfl
    simp only [List.countP_cons, List.countP_nil, hdk, hdt, if_true, Bool.false_eq_true, if_false, Nat.zero_add, Nat.add_zero] at hp
    refine inpre (atP ds (isK true x y)) ?_
    rw [OP.kind]
    exact mem_take _ k _ h1 (by omega)
  · obtain ⟨hk, hdk⟩ := kth true x y (k + r) h2
    obtain ⟨_, rfl, rfl⟩ := isK_own hdk
    have hdf : isK false d.a d.b d = false := by
      have := (isK_own hdk).1
      rw [isK_one, this]; rfl
    rw [List.countP_append, List.countP_append] at hk2
    simp only [List.countP_cons, List.countP_nil, hdk, hdf, if_true, Bool.false_eq_true, if_false, Nat.zero_add, Nat.add_zero] at hk2
    refine inpre (atP ds (isK false d.a d.b)) ?_
    rw [OP.kind]
    exact mem_take _ k _ h1 (by omega)
/-! ### the hands at work -/
def can (r : Nat) (ls : List Lt) (d : Dd) : Bool := if d.s = true then decide ((wq d.a d.b ls).length < r) else first (ltOf d) ls
theorem first_of_wq {ls : List Lt} {d : Dd} {rest : List (List Nat)} (h : wq d.a d.b ls = d.c :: rest) : first (ltOf d) ls = true := by
  rw [first_iff]
  unfold wq at h
  obtain ⟨g, gs, e1, e2, e3⟩ := List.map_eq_cons_iff.mp h
  refine ⟨gs, ?_⟩
  have hg : g ∈ ls.filter (prB d.a d.b) := by rw [e1]; exact List.mem_cons_self
  have hp := (List.mem_filter.mp hg).2
  unfold prB at hp
  rw [decide_eq_true_eq] at hp
  have : g = ltOf d := by
    obtain ⟨ga, gb, gc⟩ := g
    simp only at hp e2
    obtain ⟨rfl, rfl⟩ := hp
    subst e2
    rfl
  rw [this] at e1
  exact e1
structure Gn (r : Nat) (ds : List Dd) (rem : List Nat → List Dd) (ls : List Lt) (fd : List Dd) : Prop where
  sp : ∀ x, fd.filter (ownB x) ++ rem x = ds.filter (ownB x)
  qw : Qw ls fd
  cn : CanR fd
  kp : keepsFrom (r : Int) [] fd = true
section
variable {r : Nat} {ds fd : List Dd} {rem : List Nat → List Dd} {ls : List Lt}
theorem Gn.start : Gn r ds (fun x => ds.filter (ownB x)) [] [] := ⟨fun x => rfl, Qw.nil, CanR.nil, rfl⟩
def put1 (rem : List Nat → List Dd) (x : List Nat) (l : List Dd) : List Nat → List Dd := fun y => if y = x then l else rem y
theorem Gn.own (G : Gn r ds rem ls fd) {x : List Nat} {d : Dd} {rest : List Dd} (e : rem x = d :: rest) : hof d = x := by
  have : d ∈ ds.filter (ownB x) := by rw [← G.sp x, e]; simp
  exact of_decide_eq_true (List.mem_filter.mp this).2
theorem Gn.sp1 (G : Gn r ds rem ls fd) {x : List Nat} {d : Dd} {rest : List Dd} (e : rem x = d :: rest) : ∀ y, (fd ++ [d]).filter (ownB y) ++ put1 rem x rest y = ds.filter (ownB y) := by
  intro y
  have hx := G.own e
  rw [List.filter_append]
  unfold put1
  by_cases h : y = x
  · subst h
    have : [d].filter (ownB y) = [d] := by simp [ownB, hx]
    rw [if_pos rfl, this, ← G.sp y, e]
    simp
  · have : [d].filter (ownB y) = [] := by
      rw [List.filter_cons, if_neg]
      · rfl
      · unfold ownB
        rw [hx]
        simpa using fun z => h z.symm
    rw [if_neg h, this, List.append_nil]
    exact G.sp y
theorem Qw.len {ls : List Lt} {pre : List Dd} (q : Qw ls pre) (x y : List Nat) : pre.countP (isK true x y) = pre.countP (isK false x y) + (wq x y ls).length := by
  have := congrArg List.length (q x y)
  unfold wds at this
  rwa [List.length_append, List.length_map, List.length_map, ← List.countP_eq_length_filter, ← List.countP_eq_length_filter] at this
theorem keeps_snoc {r : Int} {pre fd : List Dd} {d : Dd} (h : keepsFrom r pre fd = true) (hd : cnt d.a d.b (pre ++ fd ++ [d]) ≤ r) : keepsFrom r pre (fd ++ [d]) = true := by
  refine keepsFrom_of fun A e B z => ?_
  rcases List.eq_nil_or_concat B with rfl | ⟨B, b, rfl⟩
  · obtain ⟨rfl, z2⟩ := List.append_inj' z rfl
    cases z2
    exact hd
  · have z' : fd ++ [d] = (A ++ e :: B) ++ [b] := by rw [z]; simp
    obtain ⟨rfl, _⟩ := List.append_inj' z' rfl
    exact keepsFrom_at h rfl
theorem Gn.send (G : Gn r ds rem ls fd) {x : List Nat} {d : Dd} {rest : List Dd} (e : rem x = d :: rest) (hd : d.s = true) (hc : (wq d.a d.b ls).length < r) : Gn r ds (put1 rem x rest) (ls ++ [ltOf d]) (fd ++ [d]) := by
  have q := G.qw.send hd
  refine ⟨G.sp1 e, q, G.cn.go q, keeps_snoc G.kp ?_⟩
  have h1 := G.qw.len d.a d.b
  have hk : isK true d.a d.b d = true := by rw [isK_one, hd]; simp
  have hf : isK false d.a d.b d = false := by rw [isK_one, hd]; rfl
  rw [List.nil_append, cnt_count, List.countP_append, List.countP_append]
  simp only [List.countP_cons, List.countP_nil, hk, hf, if_true, Bool.false_eq_true, if_false, Nat.zero_add, Nat.add_zero]
  omega
theorem keeps_all {r : Int} (h0 : 0 ≤ r) : ∀ {fd : List Dd}, keepsFrom r [] fd = true → ∀ x y, cnt x y fd ≤ r := by
  have key : ∀ n (fd : List Dd), fd.length = n → keepsFrom r [] fd = true → ∀ x y, cnt x y fd ≤ r := by
    intro n
    induction n with
    | zero => intro fd e _ x y; rw [List.eq_nil_of_length_eq_zero e]; exact h0
    | succ n ih =>
      intro fd e h x y
      rcases List.eq_nil_or_concat fd with rfl | ⟨fd, d, rfl⟩
      · simp at e
      · rw [List.concat_eq_append] at h ⊢
        have h1 : keepsFrom r [] fd = true := keepsFrom_of fun A d' B z => keepsFrom_at (A := A) (B := B ++ [d]) h (by rw [z]; simp)
        have h2 := ih fd (by simpa using e) h1 x y
        by_cases hp : d.a = x ∧ d.b = y
        · obtain ⟨rfl, rfl⟩ := hp
          have := keepsFrom_at (A := fd) (B := []) h rfl
          simpa using this
        · rw [cnt_app]
          have : cnt x y [d] = 0 := by simp [cnt, dlt, hp]
          omega
  exact fun {fd} h => key fd.length fd rfl h
theorem Gn.take (G : Gn r ds rem ls fd) {x : List Nat} {d : Dd} {rest : List Dd} (e : rem x = d :: rest) (hd : d.s = false) (hc : first (ltOf d) ls = true) : Gn r ds (put1 rem x rest) (ls.erase (ltOf d)) (fd ++ [d]) := by
  have q := G.qw.take hd hc
  refine ⟨G.sp1 e, q, G.cn.go q, keeps_snoc G.kp ?_⟩
  have h1 := keeps_all (by omega) G.kp d.a d.b
  rw [List.nil_append, cnt_app]
  have : cnt d.a d.b [d] = -1 := by simp [cnt, dlt, hd]
  omega
theorem Gn.ord (G : Gn r ds rem ls fd) : ∃ o, Ord ds fd o := ord_ex fd fun x => by rw [← G.sp x]; exact List.prefix_append _ _
theorem Gn.full (G : Gn r ds rem ls fd) (hl : fd.length = ds.length) : ∀ x, fd.filter (ownB x) = ds.filter (ownB x) := by
  obtain ⟨o, O⟩ := G.ord
  have P := perm_range O.nd O.lt (O.len.trans hl)
  intro x
  have h1 := (P.filter (atP ds (ownB x))).length_eq
  rw [O.own, List.length_take] at h1
  have h2 : ((List.range ds.length).filter (atP ds (ownB x))).length = (ds.filter (ownB x)).length := by
    rw [← List.countP_eq_length_filter (l := ds), ← ixs_len]; rfl
  have h3 : (ixs ds (ownB x)).length = (ds.filter (ownB x)).length := by rw [ixs_len, List.countP_eq_length_filter]
  have h4 := congrArg List.length (G.sp x)
  rw [List.length_append, ← List.countP_eq_length_filter] at h4
  have : rem x = [] := List.eq_nil_of_length_eq_zero (by omega)
  have h5 := G.sp x
  rw [this, List.append_nil] at h5
  exact h5
theorem Gn.goes (G : Gn r ds rem ls fd) (hl : fd.length = ds.length) : Goes r ds := ⟨fd, G.full hl, G.cn, G.kp⟩
theorem first_out {o D : List Nat} (h : ∃ i ∈ o, i ∉ D) : ∃ pre i post, o = pre ++ i :: post ∧ i ∉ D ∧ ∀ j ∈ pre, j ∈ D := by
  induction o with
  | nil => obtain ⟨i, hi, _⟩ := h; cases hi
  | cons a o ih =>
    by_cases ha : a ∈ D
    · obtain ⟨pre, i, post, e, h1, h2⟩ := ih (by
        obtain ⟨i, hi, hn⟩ := h
        rcases List.mem_cons.mp hi with rfl | hi
        · exact absurd ha hn
        · exact ⟨i, hi, hn⟩)
      exact ⟨a :: pre, i, post, by rw [e]; rfl, h1, fun j hj => by
        rcases List.mem_cons.mp hj with rfl | hj
        · exact ha
        · exact h2 j hj⟩
    · exact ⟨[], a, o, rfl, ha, fun j hj => by cases hj⟩
/-- where an order is, a hand can go on -/
theorem Gn.on (G : Gn r ds rem ls fd) (S : Story ds) {o : List Nat} (T : Topo r ds o) (hl : fd.length < ds.length) : ∃ x d rest, rem x = d :: rest ∧ can r ls d = true := by
  obtain ⟨D, O⟩ := G.ord
  obtain ⟨w, hw1, hw2⟩ := undone (by rw [O.len]; exact hl) O.nd
  obtain ⟨pre, i, post, eo, hni, hpre⟩ := first_out (o := o) (D := D) ⟨w, (T.perm.mem_iff).mpr (List.mem_range.mpr hw1), hw2⟩
  have ah : ∀ j, Ahd r ds j i → j ∈ D := fun j hj => hpre j (T.ord pre i post eo j hj)
  have hi : i < ds.length := T.lt i (by rw [eo]; simp)
  have hin : ∀ (f : Dd → Bool) (k c : Nat) (q : Nat), D.filter (atP ds f) = (ixs ds f).take c → (ixs ds f)[k]? = some q → q ∈ D → k < c := fun f k c q h1 h2 h3 => by
    refine mem_take_ix (ixs_nodup ds f) h2 ?_
    rw [← h1]
    exact List.mem_filter.mpr ⟨h3, mem_ixs.mp (List.mem_of_getElem? h2)⟩
  have hout : ∀ (f : Dd → Bool) (k c : Nat) (q : Nat), D.filter (atP ds f) = (ixs ds f).take c → (ixs ds f)[k]? = some q → q ∉ D → c ≤ k := fun f k c q h1 h2 h3 => Nat.le_of_not_lt fun z => h3 (by
    have : q ∈ (ixs ds f).take c := List.mem_of_getElem? (i := k) (by rw [List.getElem?_take_of_lt z]; exact h2)
    rw [← h1] at this
    exact (List.mem_filter.mp this).1)
  obtain ⟨m, hm⟩ := List.getElem?_of_mem (own_self hi)
  have own := O.own (hof (dat ds i))
  have hmc : m = fd.countP (ownB (hof (dat ds i))) := by
    have h1 := hout _ _ _ _ own hm hni
    rcases Nat.lt_or_ge (fd.countP (ownB (hof (dat ds i)))) m with z | z
    · exfalso
      obtain ⟨m', rfl⟩ : ∃ m', m = m' + 1 := ⟨m - 1, by omega⟩
      have hml := (List.getElem?_eq_some_iff.mp hm).1
      have hj : (ixs ds (ownB (hof (dat ds i))))[m']? = some (ixs ds (ownB (hof (dat ds i))))[m'] := List.getElem?_eq_getElem (by omega)
      have := hin _ _ _ _ own hj (ah _ (.inl ⟨_, m', hj, hm⟩))
      omega
    · omega
  -- what is left of its view
  have hrem : ∃ rest, rem (hof (dat ds i)) = dat ds i :: rest := by
    have h1 := G.sp (hof (dat ds i))
    have h2 : (ds.filter (ownB (hof (dat ds i))))[m]? = some (dat ds i) := by
      rw [← ixs_row]
      unfold rowOf
      rw [List.getElem?_map, hm]; rfl
    rw [← h1, hmc, List.countP_eq_length_filter, List.getElem?_append_right (Nat.le_refl _), Nat.sub_self] at h2
    cases hr : rem (hof (dat ds i)) with
    | nil => rw [hr] at h2; cases h2
    | cons a l =>
      rw [hr] at h2
      simp only [List.getElem?_cons_zero, Option.some.injEq] at h2
      exact ⟨l, by rw [h2]⟩
  obtain ⟨rest, hrem⟩ := hrem
  refine ⟨_, _, rest, hrem, ?_⟩
  generalize hd : dat ds i = d at *
  have hdi : ds[i]? = some d := by rw [← hd]; exact dat_at hi
  have ql := G.qw.len d.a d.b
  have kt := O.kind true d.a d.b
  have kf := O.kind false d.a d.b
  have lens := S.lens d.a d.b
  unfold can
  cases hs : d.s with
  | true =>
    rw [if_pos rfl, decide_eq_true_eq]
    have hmi : i ∈ ixs ds (isK true d.a d.b) := mem_ixs'.mpr ⟨d, hdi, by rw [isK_one, hs]; simp⟩
    obtain ⟨a, ha⟩ := List.getElem?_of_mem hmi
    have hal := (List.getElem?_eq_some_iff.mp ha).1
    have h1 := hout _ _ _ _ kt ha hni
    rcases Nat.lt_or_ge a r with z | z
    · omega
    · obtain ⟨q, rfl⟩ : ∃ q, a = q + r := ⟨a - r, by omega⟩
      have hT : (ixs ds (isK false d.a d.b))[q]? = some ((ixs ds (isK false d.a d.b))[q]'(by omega)) := List.getElem?_eq_getElem (by omega)
      have := hin _ _ _ _ kf hT (ah _ (.inr (.inr ⟨d.a, d.b, q, hT, ha⟩)))
      omega
  | false =>
    rw [if_neg Bool.false_ne_true]
    have hmi : i ∈ ixs ds (isK false d.a d.b) := mem_ixs'.mpr ⟨d, hdi, by rw [isK_one, hs]; simp⟩
    obtain ⟨b, hb⟩ := List.getElem?_of_mem hmi
    have hbl := (List.getElem?_eq_some_iff.mp hb).1
    have h1 := hout _ _ _ _ kf hb hni
    have hS : (ixs ds (isK true d.a d.b))[b]? = some ((ixs ds (isK true d.a d.b))[b]'(by omega)) := List.getElem?_eq_getElem (by omega)
    have h2 := hin _ _ _ _ kt hS (ah _ (.inr (.inl ⟨d.a, d.b, b, hS, hb⟩)))
    -- it is the next one of its kind
    have hbt : b = fd.countP (isK false d.a d.b) := by
      rcases Nat.lt_or_ge (fd.countP (isK false d.a d.b)) b with z | z
      · exfalso
        generalize fd.countP (isK false d.a d.b) = t at *
        have ht : (ixs ds (isK false d.a d.b))[t]? = some ((ixs ds (isK false d.a d.b))[t]'(by omega)) := List.getElem?_eq_getElem (by omega)
        have hlt : (ixs ds (isK false d.a d.b))[t]'(by omega) < i := by
          have := (List.pairwise_iff_getElem.mp (ixs_sorted ds (isK false d.a d.b))) t b (by omega) hbl z
          rw [(List.getElem?_eq_some_iff.mp hb).2] at this
          exact this
        generalize (ixs ds (isK false d.a d.b))[t]'(by omega) = q at ht hlt
        have hqD : q ∈ D := by
          have hq : q ∈ ixs ds (ownB (hof d)) := by
            obtain ⟨e, e1, e2⟩ := mem_ixs'.mp (List.mem_of_getElem? ht)
            refine mem_ixs'.mpr ⟨e, e1, ?_⟩
            have h3 := isK_who e2
            have : who false d.a d.b = hof d := by unfold who hof; rw [hs]
            rw [← this]; exact h3
          obtain ⟨p, hp⟩ := List.getElem?_of_mem hq
          have hpm : p < m := by
            rcases Nat.lt_or_ge p m with y | y
            · exact y
            · exfalso
              have hpl := (List.getElem?_eq_some_iff.mp hp).1
              have hml := (List.getElem?_eq_some_iff.mp hm).1
              rcases Nat.lt_or_ge m p with y2 | y2
              · have := (List.pairwise_iff_getElem.mp (ixs_sorted ds (ownB (hof d)))) m p hml hpl y2
                rw [(List.getElem?_eq_some_iff.mp hm).2, (List.getElem?_eq_some_iff.mp hp).2] at this
                omega
              · have : p = m := by omega
                subst this
                rw [hm] at hp
                cases hp
                omega
          have hpt : q ∈ (ixs ds (ownB (hof d))).take (fd.countP (ownB (hof d))) := List.mem_of_getElem? (i := p) (by rw [List.getElem?_take_of_lt (by omega)]; exact hp)
          rw [← own] at hpt
          exact (List.mem_filter.mp hpt).1
        have := hin _ _ _ _ kf ht hqD
        omega
      · omega
    -- its word
    have hw : ∃ rest, wq d.a d.b ls = d.c :: rest := by
      have q := G.qw d.a d.b
      have wt : wds true d.a d.b fd <+: wds true d.a d.b ds := by
        unfold wds
        have : fd.filter (isK true d.a d.b) <+: ds.filter (isK true d.a d.b) := by
          have h := congrArg (List.filter (isK true d.a d.b)) (G.sp (who true d.a d.b))
          rw [List.filter_append, List.filter_filter, List.filter_filter] at h
          have e : ∀ l : List Dd, l.filter (fun a => isK true d.a d.b a && ownB (who true d.a d.b) a) = l.filter (isK true d.a d.b) := fun l => List.filter_congr fun z _ => by
            cases hg : isK true d.a d.b z with
            | false => simp
            | true => simp [isK_who hg]
          rw [e, e] at h
          exact ⟨_, h⟩
        exact this.map _
      obtain ⟨t, ht⟩ := wt
      rw [q, S.all] at ht
      have hg : (wds false d.a d.b ds)[b]? = some d.c := by
        unfold wds
        rw [← ixs_row]
        unfold rowOf
        rw [List.getElem?_map, List.getElem?_map, hb]
        simp [hd]
      rw [← ht, List.append_assoc, List.getElem?_append_right (by unfold wds; rw [List.length_map, ← List.countP_eq_length_filter]; omega)] at hg
      have hz : b - (wds false d.a d.b fd).length = 0 := by unfold wds; rw [List.length_map, ← List.countP_eq_length_filter]; omega
      rw [hz] at hg
      cases hq : wq d.a d.b ls with
      | nil => rw [hq] at ql; simp at ql; omega
      | cons u v =>
        rw [hq] at hg
        simp only [List.cons_append, List.getElem?_cons_zero, Option.some.injEq] at hg
        exact ⟨v, by rw [hg]⟩
    obtain ⟨rest', hw⟩ := hw
    exact first_of_wq hw
end
end TH

namespace TH
open PySem
/-! ### the hands' views, in a dict -/
structure VD (h : CH) (g : Nat) (M : List Nat) (ks : List (List Nat)) (rem : List Nat → List Dd) : Prop where
  ex : ∃ kvs, h[g]? = some (.dct kvs) ∧ LK kvs ∧ kvs.map (·.1) = ks.map CV.str ∧ ∀ x ∈ ks, ∃ r, dget kvs (.str x) = some (.ref r) ∧ h[r]? = some (.lst ((rem x).map Dd.cv)) ∧ r ∉ M
theorem VD.off {h h' : CH} {g : Nat} {M : List Nat} {ks : List (List Nat)} {rem : List Nat → List Dd} (V : VD h g M ks rem) (o : Off M h h') (hg : h'[g]? = h[g]?) : VD h' g M ks rem := by
  obtain ⟨kvs, g1, lk, kk, at'⟩ := V.ex
  exact ⟨kvs, by rw [hg]; exact g1, lk, kk, fun x hx => by
    obtain ⟨r, a, b, c⟩ := at' x hx
    exact ⟨r, a, o.get b c, c⟩⟩
theorem dget_key {kvs : List (CV × CV)} {k v : CV} (h : dget kvs k = some v) : k ∈ kvs.map (·.1) := by
  unfold dget at h
  rw [Option.map_eq_some_iff] at h
  obtain ⟨p, hp, _⟩ := h
  have := List.find?_some hp
  exact List.mem_map.mpr ⟨p, List.mem_of_find?_eq_some hp, of_decide_eq_true this⟩
theorem VD.len {h : CH} {g : Nat} {M : List Nat} {ks : List (List Nat)} {kvs : List (CV × CV)} (e : kvs.map (·.1) = ks.map CV.str) : kvs.length = ks.length := by
  have := congrArg List.length e
  simpa using this
/-- another list for a hand -/
theorem VD.put {h : CH} {g r : Nat} {M : List Nat} {ks : List (List Nat)} {rem : List Nat → List Dd} {kvs : List (CV × CV)} {x : List Nat} {l : List Dd} (hx : x ∈ ks) (g1 : h[g]? = some (.dct kvs)) (lk : LK kvs) (kk : kvs.map (·.1) = ks.map CV.str) (at' : ∀ x ∈ ks, ∃ r, dget kvs (.str x) = some (.ref r) ∧ h[r]? = some (.lst ((rem x).map Dd.cv)) ∧ r ∉ M)
    (hr : h[r]? = some (.lst (l.map Dd.cv))) (hrM : r ∉ M) (hgM : g ∈ M) : VD (h.set g (.dct (dput kvs (.str x) (.ref r)))) g M ks (put1 rem x l) := by
  refine ⟨_, List.getElem?_set_self (lt_of g1), lk.put rfl, ?_, fun y hy => ?_⟩
  · rw [dput_keys, kk, if_pos (mem_strs.mpr hx)]
  · by_cases hyx : y = x
    · subst hyx
      refine ⟨r, by rw [dget_put, if_pos rfl], ?_, hrM⟩
      rw [List.getElem?_set_ne (fun z => hrM (by rw [← z]; exact hgM))]
      unfold put1
      rw [if_pos rfl]; exact hr
    · obtain ⟨q, a, b, c⟩ := at' y hy
      refine ⟨q, by rw [dget_put, if_neg (fun z => hyx (str_injH z))]; exact a, ?_, c⟩
      rw [List.getElem?_set_ne (fun z => c (by rw [← z]; exact hgM))]
      unfold put1
      rw [if_neg hyx]; exact b
end TH

/-! The hands at work until all is done or no hand can go on (def 233). -/
namespace TH
open PySem
structure HS (r : Nat) (ds : List Dd) (ks : List (List Nat)) (g wa fo : Nat) (h : CH) (rem : List Nat → List Dd) (ls : List Lt) (fd : List Dd) : Prop where
  V : VD h g [g, wa, fo] ks rem
  ga : h[wa]? = some (.lst (ls.map Lt.cv))
  gf : h[fo]? = some (.lst (fd.map Dd.cv))
  G : Gn r ds rem ls fd
  kn : ∀ x, x ∉ ks → rem x = []
  ll : ls.length ≤ fd.length
section
variable {r g wa fo : Nat} {ds fd : List Dd} {ks : List (List Nat)} {h h' : CH} {rem : List Nat → List Dd} {ls : List Lt}
theorem HS.off (H : HS r ds ks g wa fo h rem ls fd) (o : Off [] h h') : HS r ds ks g wa fo h' rem ls fd := by
  obtain ⟨kvs, g1, _⟩ := H.V.ex
  exact ⟨H.V.off (o.mono (by simp)) (by rw [o.get g1 (by simp), g1]), o.get H.ga (by simp), o.get H.gf (by simp), H.G, H.kn, H.ll⟩
end
/-- what 233 gives -/
def Found (r : Nat) (ds : List Dd) (v : CV) : Prop := (v = .non ∧ ¬ Goes r ds) ∨ ∃ R, v = .tup (R.map Dd.cv) ∧ (∀ x, R.filter (ownB x) = ds.filter (ownB x)) ∧ CanR R ∧ keepsFrom (r : Int) [] R = true
end TH

/-! The least rooms (def 145). -/
namespace TH
open PySem
theorem Story.alike {R ds : List Dd} (S : Story ds) (hv : ∀ x, R.filter (ownB x) = ds.filter (ownB x)) (hc : CanR R) : Story R := by
  have k : ∀ (s : Bool) x y, R.filter (isK s x y) = ds.filter (isK s x y) := fun s x y => by
    have h := congrArg (List.filter (isK s x y)) (hv (who s x y))
    rw [List.filter_filter, List.filter_filter] at h
    have e : ∀ l : List Dd, l.filter (fun a => isK s x y a && ownB (who s x y) a) = l.filter (isK s x y) := fun l => List.filter_congr fun z _ => by
      cases hg : isK s x y z with
      | false => simp
      | true => simp [isK_who hg]
    rwa [e, e] at h
  refine ⟨hc, fun x y => ?_⟩
  have := S.all x y
  unfold wds at this ⊢
  rw [k, k]; exact this
theorem Story.app {A B : List Dd} (S : Story A) (T : Story B) : Story (A ++ B) := by
  refine ⟨fun pre post e x y => ?_, fun x y => by rw [wds_app, wds_app, S.all, T.all]⟩
  rcases List.append_eq_append_iff.mp e with ⟨c, h1, h2⟩ | ⟨c, h1, h2⟩
  · rw [h1, wds_app, wds_app, S.all]
    rw [List.prefix_append_right_inj]
    exact T.can c post h2 x y
  · exact S.can pre c h1 x y
theorem Story.goes {ds : List Dd} (S : Story ds) {r : Nat} (hl : ds.length ≤ 2 * r) : Goes r ds := by
  refine ⟨ds, fun x => rfl, S.can, keepsFrom_of fun A d B e => ?_⟩
  have h1 := S.lens d.a d.b
  rw [ixs_len, ixs_len] at h1
  have h2 : ds.countP (isK true d.a d.b) + ds.countP (isK false d.a d.b) ≤ ds.length := by
    have key : ∀ l : List Dd, l.countP (isK true d.a d.b) + l.countP (isK false d.a d.b) ≤ l.length := by
      intro l
      induction l with
      | nil => simp
      | cons a l ih =>
        have : ¬ (isK true d.a d.b a = true ∧ isK false d.a d.b a = true) := fun z => by
          have a1 := (isK_own z.1).1
          have a2 := (isK_own z.2).1
          rw [a1] at a2; cases a2
        rw [List.countP_cons, List.countP_cons, List.length_cons]
        by_cases ht : isK true d.a d.b a = true <;> by_cases hf : isK false d.a d.b a = true
        · exact absurd ⟨ht, hf⟩ this
        all_goals simp only [ht, hf, if_true, if_false, Bool.false_eq_true] <;> omega
    exact key ds
  rw [List.nil_append, cnt_count]
  have h3 : (A ++ [d]).countP (isK true d.a d.b) ≤ ds.countP (isK true d.a d.b) := by
    have : ds = (A ++ [d]) ++ B := by rw [e]; simp
    rw [this, List.countP_append (l₂ := B)]
    omega
  omega
/-- the least number of rooms -/
structure Least (ds : List Dd) (m : Nat) : Prop where
  one : 1 ≤ m
  iff : ∀ r, 1 ≤ r → (Goes r ds ↔ m ≤ r)
theorem Least.alike {A B : List Dd} {m : Nat} (h : Least A m) (e : ∀ x, A.filter (ownB x) = B.filter (ownB x)) : Least B m :=
  ⟨h.one, fun r hr => ⟨fun g => (h.iff r hr).mp (g.alike fun x => (e x).symm), fun z => ((h.iff r hr).mpr z).alike e⟩⟩
def WiF (F : Fns) : Prop := ∀ (h : CH) (r : Nat) (ds : List Dd), Story ds → ds.length ≤ 150 → 1 ≤ r ∧ r ≤ 40 → ∃ (v : CV) (h' : CH), F 144 [.tup (ds.map Dd.cv), .int (r : Int)] h = some (v, h') ∧ Within r ds v ∧ Off [] h h'
end TH

/-! Law k23: the rooms that a story takes. -/
namespace TH
open PySem
def wd (m i : Nat) : List Nat := if m ≤ i then rowS else rndS
structure R4 (F : Fns) : Prop where
  within : WiF F
  found : ∀ (h : CH) (r : Nat) (ds : List Dd), Story ds → ds.length ≤ 150 → ∃ v h', F 233 [.tup (ds.map Dd.cv), .int (r : Int)] h = some (v, h') ∧ Found r ds v ∧ Off [] h h'
  least : ∀ (h : CH) (m : Nat) (ds : List Dd), Story ds → ds.length ≤ 150 → Least ds m → m ≤ 40 → ∃ h', F 145 [.tup (ds.map Dd.cv)] h = some (.int (m : Int), h') ∧ Off [] h h'
end TH

/-! Law k23. -/
namespace TH
open PySem
structure Rl23 (F : Fns) : Prop where
  take : ∀ (h : CH) (p : Nat) (t : Int), Pk h p → 0 < t → t < 1073741824 → ∃ d h', F 93 [.ref p, .int t] h = some (.int d, h') ∧ 0 ≤ d ∧ d < t ∧ Off [p] h h' ∧ Pk h' p
  pack : ∀ (h : CH) (ns : List Int) (k : Nat), k ≤ 100 → (∀ z ∈ ns, z.natAbs < 2 ^ 1048576) → ∃ h', F 217 [.lst (ns.map CV.int), .int (k : Int)] h = some (.ref h.length, h') ∧ Off [] h h' ∧ Pk h' h.length
  hands : ∀ (h : CH) (p : Nat), Pk h p → ∃ (r : Nat) (ks : List (List Nat)) (h' : CH), F 218 [.ref p] h = some (.ref r, h') ∧ h'[r]? = some (.lst (ks.map .str)) ∧ 2 ≤ ks.length ∧ ks.length ≤ 4 ∧ h.length ≤ r ∧ Off [p] h h' ∧ Pk h' p
  story : ∀ (h : CH) (p r : Nat) (hs : List (List Nat)), Pk h p → h[r]? = some (.lst (hs.map .str)) → 2 ≤ hs.length ∧ hs.length ≤ 1000 → r ≠ p → ∃ (ds : List Dd) (h' : CH), F 219 [.ref p, .ref r, .int 6] h = some (.tup (ds.map Dd.cv), h') ∧ ds.length ≤ 12 ∧ Story ds ∧ Off [p] h h' ∧ Pk h' p
  right : ∀ (h : CH) (ds : List Dd), Story ds → ds.length ≤ 24 → ∃ h', F 234 [.tup (ds.map Dd.cv)] h = some (.bl true, h') ∧ Off [] h h'
end TH

/-! Stories turned in time; stories put behind one another; bundles of letters. -/
namespace TH
open PySem
/-! ### turned in time -/
def swp (d : Dd) : Dd := ⟨!d.s, d.b, d.a, d.c⟩
def tn (ds : List Dd) : List Dd := (ds.reverse).map swp
theorem hof_swp (d : Dd) : hof (swp d) = hof d := by
  unfold hof swp
  cases d.s <;> rfl
theorem swp_swp (d : Dd) : swp (swp d) = d := by
  unfold swp
  cases d
  simp
theorem tn_tn (ds : List Dd) : tn (tn ds) = ds := by
  unfold tn
  rw [← List.map_reverse, List.reverse_reverse, List.map_map]
  have : swp ∘ swp = id := funext fun d => swp_swp d
  rw [this, List.map_id]
theorem tn_len (ds : List Dd) : (tn ds).length = ds.length := by unfold tn; simp
theorem tn_app (A B : List Dd) : tn (A ++ B) = tn B ++ tn A := by unfold tn; rw [List.reverse_append, List.map_append]
theorem tn_filter (f g : Dd → Bool) (hf : ∀ d, f (swp d) = g d) (ds : List Dd) : (tn ds).filter f = tn (ds.filter g) := by
  unfold tn
  rw [List.filter_map, ← List.filter_reverse]
  have : f ∘ swp = g := funext hf
  rw [this]
theorem own_swp (x : List Nat) (d : Dd) : ownB x (swp d) = ownB x d := by unfold ownB; rw [hof_swp]
theorem isK_swp (s : Bool) (x y : List Nat) (d : Dd) : isK s x y (swp d) = isK (!s) y x d := by
  rw [isK_one, isK_one]
  unfold swp
  dsimp only
  cases d.s <;> cases s <;> simp [and_comm]
theorem wds_tn (s : Bool) (x y : List Nat) (ds : List Dd) : wds s x y (tn ds) = (wds (!s) y x ds).reverse := by
  unfold wds
  rw [tn_filter _ _ (isK_swp s x y)]
  unfold tn
  rw [List.map_map]
  have : Dd.c ∘ swp = Dd.c := rfl
  rw [this, List.map_reverse]
theorem Story.tn {ds : List Dd} (S : Story ds) : Story (TH.tn ds) := by
  refine ⟨fun pre post e x y => ?_, fun x y => by rw [wds_tn, wds_tn]; exact congrArg List.reverse (S.all y x).symm⟩
  have e2 : ds = TH.tn post ++ TH.tn pre := by rw [← tn_app, ← e, tn_tn]
  have hp : pre = TH.tn (TH.tn pre) := (tn_tn pre).symm
  generalize TH.tn post = A at e2
  generalize TH.tn pre = B at e2 hp
  rw [hp, wds_tn, wds_tn, List.reverse_prefix]
  have h1 := S.all y x
  rw [e2, wds_app, wds_app] at h1
  obtain ⟨t, ht⟩ := S.can A B e2 y x
  rw [← ht, List.append_assoc, List.append_cancel_left_eq] at h1
  exact ⟨t, h1⟩
theorem cnt_tn (x y : List Nat) (ds : List Dd) : cnt x y (TH.tn ds) = - cnt y x ds := by
  have k : ∀ s, (TH.tn ds).countP (isK s x y) = ds.countP (isK (!s) y x) := fun s => by
    rw [List.countP_eq_length_filter, tn_filter _ _ (isK_swp s x y), tn_len, ← List.countP_eq_length_filter]
  rw [cnt_count, cnt_count, k, k]
  simp only [Bool.not_true, Bool.not_false]
  omega
theorem Story.cnt0 {ds : List Dd} (S : Story ds) (x y : List Nat) : cnt x y ds = 0 := by
  have h := S.lens x y
  rw [ixs_len, ixs_len] at h
  rw [cnt_count, h]
  omega
theorem keeps_pre {r : Int} {A B : List Dd} (h : keepsFrom r [] (A ++ B) = true) : keepsFrom r [] A = true := keepsFrom_of fun C d D z => keepsFrom_at (A := C) (B := D ++ B) h (by rw [z]; simp)
theorem keeps_tn {r : Int} (h0 : 0 ≤ r) {ds : List Dd} (S : Story ds) (h : keepsFrom r [] ds = true) : keepsFrom r [] (TH.tn ds) = true := by
  refine keepsFrom_of fun A d B e => ?_
  rw [List.nil_append]
  have e2 : ds = TH.tn B ++ TH.tn (A ++ [d]) := by rw [← tn_app, List.append_assoc]; show ds = TH.tn (A ++ d :: B); rw [← e, tn_tn]
  have h1 := S.cnt0 d.b d.a
  rw [e2, cnt_app, cnt_tn d.b d.a (A ++ [d])] at h1
  rw [e2] at h
  have h2 := keeps_all h0 (keeps_pre h) d.b d.a
  omega
theorem Goes.tn {r : Nat} {ds : List Dd} (S : Story ds) (h : Goes r ds) : Goes r (TH.tn ds) := by
  obtain ⟨R, h1, h2, h3⟩ := h
  have SR := S.alike h1 h2
  refine ⟨TH.tn R, fun x => ?_, SR.tn.can, keeps_tn (by omega) SR h3⟩
  rw [tn_filter _ _ (own_swp x), tn_filter _ _ (own_swp x), h1]
theorem Least.tn {m : Nat} {ds : List Dd} (S : Story ds) (L : Least ds m) : Least (TH.tn ds) m := ⟨L.one, fun r hr => ⟨fun g => (L.iff r hr).mp (by have := g.tn S.tn; rwa [tn_tn] at this), fun z => ((L.iff r hr).mpr z).tn S⟩⟩
/-! ### behind one another -/
theorem keeps_app {r : Int} {A B : List Dd} (S : Story A) (h1 : keepsFrom r [] A = true) (h2 : keepsFrom r [] B = true) : keepsFrom r [] (A ++ B) = true := by
  refine keepsFrom_of fun C d D e => ?_
  rw [List.nil_append]
  rcases List.append_eq_append_iff.mp e with ⟨c, z1, z2⟩ | ⟨c, z1, z2⟩
  · rw [z1, List.append_assoc, cnt_app, S.cnt0]
    have := keepsFrom_at h2 z2
    rw [List.nil_append] at this
    omega
  · cases c with
    | nil =>
      rw [List.append_nil] at z1
      subst z1
      rw [cnt_app, S.cnt0]
      have := keepsFrom_at (A := []) (d := d) (B := D) h2 z2.symm
      rw [List.nil_append, List.nil_append] at this
      omega
    | cons c0 c =>
      obtain ⟨rfl, z3⟩ := List.cons.inj z2
      have := keepsFrom_at (A := C) (d := d) (B := c) h1 z1
      rwa [List.nil_append] at this
theorem Goes.app {r : Nat} {A B : List Dd} (SA : Story A) (SB : Story B) (hA : Goes r A) (hB : Goes r B) : Goes r (A ++ B) := by
  obtain ⟨R, a1, a2, a3⟩ := hA
  obtain ⟨Q, b1, b2, b3⟩ := hB
  have S1 := SA.alike a1 a2
  have S2 := SB.alike b1 b2
  exact ⟨R ++ Q, fun x => by rw [List.filter_append, List.filter_append, a1, b1], (S1.app S2).can, keeps_app S1 a3 b3⟩
theorem ixs_app (A B : List Dd) (f : Dd → Bool) : ixs (A ++ B) f = ixs A f ++ (ixs B f).map (A.length + ·) := by
  unfold ixs
  rw [List.length_append, List.range_add, List.filter_append, List.filter_map]
  congr 1
  · refine List.filter_congr fun i hi => ?_
    rw [List.mem_range] at hi
    unfold atP
    rw [List.getElem?_append_left hi]
  · congr 1
    refine List.filter_congr fun i hi => ?_
    unfold atP
    simp only [Function.comp]
    rw [List.getElem?_append_right (by omega)]
    congr 2
    omega
theorem Ahd.app {r : Nat} {A B : List Dd} {j i : Nat} (h : Ahd r A j i) : Ahd r (A ++ B) j i := by
  have k : ∀ f n m, (ixs A f)[n]? = some m → (ixs (A ++ B) f)[n]? = some m := fun f n m e => by
    rw [ixs_app, List.getElem?_append_left (List.getElem?_eq_some_iff.mp e).1]
    exact e
  rcases h with ⟨x, n, h1, h2⟩ | ⟨x, y, n, h1, h2⟩ | ⟨x, y, n, h1, h2⟩
  · exact .inl ⟨x, n, k _ _ _ h1, k _ _ _ h2⟩
  · exact .inr (.inl ⟨x, y, n, k _ _ _ h1, k _ _ _ h2⟩)
  · exact .inr (.inr ⟨x, y, n, k _ _ _ h1, k _ _ _ h2⟩)
theorem Ahd.lt {r : Nat} {A : List Dd} {j i : Nat} (h : Ahd r A j i) : j < A.length := by
  rcases h with ⟨x, n, h1, h2⟩ | ⟨x, y, n, h1, h2⟩ | ⟨x, y, n, h1, h2⟩ <;> exact ixs_lt (List.mem_of_getElem? h1)
theorem Topo.left {r : Nat} {A B : List Dd} {o : List Nat} (T : Topo r (A ++ B) o) : Topo r A (o.filter fun i => decide (i < A.length)) := by
  refine ⟨T.nd.filter _, fun i hi => of_decide_eq_true (List.mem_filter.mp hi).2, ?_, fun pre i post e j ha => ?_⟩
  · have h := (T.perm.filter fun i => decide (i < A.length)).length_eq
    rw [h, List.length_append, List.range_add, List.filter_append]
    have h1 : (List.range A.length).filter (fun i => decide (i < A.length)) = List.range A.length := List.filter_eq_self.mpr fun i hi => decide_eq_true (List.mem_range.mp hi)
    have h2 : ((List.range B.length).map (A.length + ·)).filter (fun i => decide (i < A.length)) = [] := List.filter_eq_nil_iff.mpr fun i hi => by
      obtain ⟨k, _, rfl⟩ := List.mem_map.mp hi
      simp
    rw [h1, h2, List.append_nil, List.length_range]
  · obtain ⟨l1, l2, e1, e2, e3⟩ := List.filter_eq_append_iff.mp e
    obtain ⟨m1, m2, f1, f2, f3, f4⟩ := List.filter_eq_cons_iff.mp e3
    have hj := T.ord (l1 ++ m1) i m2 (by rw [e1, f1]; simp) j ha.app
    have hjl := ha.lt
    rcases List.mem_append.mp hj with z | z
    · rw [← e2]
      exact List.mem_filter.mpr ⟨z, decide_eq_true hjl⟩
    · exact absurd (decide_eq_true hjl) (f2 j z)
theorem Goes.left {r : Nat} {A B : List Dd} (SA : Story A) (SB : Story B) (h : Goes r (A ++ B)) : Goes r A := by
  obtain ⟨o, T⟩ := goes_topo (SA.app SB) h
  exact T.left.goes SA
theorem Goes.right {r : Nat} {A B : List Dd} (SA : Story A) (SB : Story B) (h : Goes r (A ++ B)) : Goes r B := by
  have h1 := h.tn (SA.app SB)
  rw [tn_app] at h1
  have h2 := (h1.left SB.tn SA.tn).tn SB.tn
  rwa [tn_tn] at h2
theorem Least.app {A B : List Dd} {m n : Nat} (SA : Story A) (SB : Story B) (LA : Least A m) (LB : Least B n) : Least (A ++ B) (max m n) := by
  have := LA.one
  refine ⟨by omega, fun r hr => ⟨fun g => ?_, fun z => ?_⟩⟩
  · have h1 := (LA.iff r hr).mp (g.left SA SB)
    have h2 := (LB.iff r hr).mp (g.right SA SB)
    omega
  · exact ((LA.iff r hr).mpr (by omega)).app SA SB ((LB.iff r hr).mpr (by omega))
end TH

/-! Bundles of letters: two hands who send before they take. -/
namespace TH
open PySem
theorem Story.nil : Story [] := ⟨CanR.nil, fun _ _ => rfl⟩
def bun (s1 s2 : Dd) (m n : Nat) : List Dd := List.replicate m s1 ++ List.replicate n s2 ++ List.replicate m s1.tk ++ List.replicate n s2.tk
section
variable {s1 s2 : Dd} {m n r : Nat}
end
end TH

/-! The hands of k24: unlike ones. -/
namespace TH
open PySem
theorem repS_lenR (s : List Nat) : ∀ n, (repS s n).length = s.length * n
  | 0 => rfl
  | n + 1 => by rw [repS, List.length_append, repS_lenR s n, Nat.mul_succ]; omega
theorem comp_textsF {F : Fns} {s : Env} {h : CH} {elt : CE} {i n : Nat} {f : Nat → List Nat} (hn : n ≤ 1000) (he : ∀ j : Nat, j < n → evalC F elt (s.set i (some (.int (0 + (j : Int))))) h = some (.str (f j), h)) :
    compK F elt (.lit (.bl true)) i s (.ints 0 n) h = some (.ref h.length, h ++ [.lst (((List.range n).map f).map .str)]) := by
  obtain ⟨acc, h', e, rfl, rfl⟩ := comp_each (F := F) (s := s) (h := h) (elt := elt) (i := i) (src := .ints 0 n) (fun j acc h' => acc = ((List.range j).map f).map CV.str ∧ h' = h) (by rw [src_intsL]; exact lim_big (by omega)) ⟨rfl, rfl⟩
    (fun j acc h' hj hi => by
      rw [src_intsL] at hj
      obtain ⟨rfl, rfl⟩ := hi
      refine ⟨.int (0 + (j : Int)), .str (f j), h', by rw [src_ints, if_pos hj], he j hj, ?_, rfl⟩
      rw [List.range_succ, List.map_append, List.map_append]; rfl)
    (fun acc h' _ => by rw [src_intsL, src_ints, if_neg (by omega)])
  exact e
end TH

/-! Law k24: the rooms of stories turned, put together, and of bundles. -/
namespace TH
open PySem
def one' (a b : List Nat) : Dd := ⟨true, a, b, [120]⟩
def two' (a b : List Nat) : Dd := ⟨true, b, a, [121]⟩
structure Rl24 (F : Fns) : Prop where
  take : ∀ (h : CH) (p : Nat) (t : Int), Pk h p → 0 < t → t < 1073741824 → ∃ d h', F 93 [.ref p, .int t] h = some (.int d, h') ∧ 0 ≤ d ∧ d < t ∧ Off [p] h h' ∧ Pk h' p
  pack : ∀ (h : CH) (ns : List Int) (k : Nat), k ≤ 100 → (∀ z ∈ ns, z.natAbs < 2 ^ 1048576) → ∃ h', F 217 [.lst (ns.map CV.int), .int (k : Int)] h = some (.ref h.length, h') ∧ Off [] h h' ∧ Pk h' h.length
  hands : ∀ (h : CH) (p : Nat), Pk h p → ∃ (r : Nat) (ks : List (List Nat)) (h' : CH), F 218 [.ref p] h = some (.ref r, h') ∧ h'[r]? = some (.lst (ks.map .str)) ∧ 2 ≤ ks.length ∧ ks.length ≤ 4 ∧ h.length ≤ r ∧ Off [p] h h' ∧ Pk h' p ∧ ks[0]? ≠ ks[1]?
  story : ∀ (h : CH) (p r : Nat) (hs : List (List Nat)), Pk h p → h[r]? = some (.lst (hs.map .str)) → 2 ≤ hs.length ∧ hs.length ≤ 1000 → r ≠ p → ∃ (ds : List Dd) (h' : CH), F 219 [.ref p, .ref r, .int 6] h = some (.tup (ds.map Dd.cv), h') ∧ ds.length ≤ 12 ∧ Story ds ∧ Off [p] h h' ∧ Pk h' p
  least : ∀ (h : CH) (m : Nat) (ds : List Dd), Story ds → ds.length ≤ 150 → Least ds m → m ≤ 40 → ∃ h', F 145 [.tup (ds.map Dd.cv)] h = some (.int (m : Int), h') ∧ Off [] h h'
  within : WiF F
  keeps : ∀ (h : CH) (r : Int) (ds : List Dd), 1 ≤ r ∧ r ≤ 40 → ds.length ≤ 1000 → ∃ h', F 139 [.tup (ds.map Dd.cv), .int r] h = some (.bl (keepsFrom r [] ds), h') ∧ Off [] h h'
  turned : ∀ (h : CH) (ds : List Dd), ds.length ≤ 1000 → ∃ h', F 236 [.tup (ds.map Dd.cv)] h = some (.tup ((tn ds).map Dd.cv), h') ∧ Off [] h h'
  bundles : ∀ (h : CH) (r m n : Nat) (a b : List Nat) (ks : List (List Nat)), h[r]? = some (.lst ((a :: b :: ks).map CV.str)) → m ≤ 100 → n ≤ 100 → ∃ h', F 237 [.ref r, .int (m : Int), .int (n : Int)] h = some (.tup ((bun (one' a b) (two' a b) m n).map Dd.cv), h') ∧ Off [] h h'
end TH

/-! Rows that can go: letters by pairs, in a dict. -/
namespace TH
open PySem
def insP (ks : List (List Nat × List Nat)) (p : List Nat × List Nat) : List (List Nat × List Nat) := if p ∈ ks then ks else ks ++ [p]
theorem insP_mem {ks : List (List Nat × List Nat)} {p q : List Nat × List Nat} : q ∈ insP ks p ↔ q ∈ ks ∨ q = p := by
  unfold insP
  split
  · rename_i h
    exact ⟨.inl, fun z => z.elim id fun e => by rw [e]; exact h⟩
  · simp
def pkp (p : List Nat × List Nat) : CV := pk p.1 p.2
theorem pkp_mem {ks : List (List Nat × List Nat)} {p : List Nat × List Nat} : pkp p ∈ ks.map pkp ↔ p ∈ ks := ⟨fun h => by
  obtain ⟨q, hq, e⟩ := List.mem_map.mp h
  have := pk_inj.mp e
  have : q = p := Prod.ext this.1.symm this.2.symm
  rw [← this]; exact hq, fun h => List.mem_map_of_mem h⟩
/-- letters by pairs -/
def UD (h : CH) (g : Nat) (M : List Nat) (ks : List (List Nat × List Nat)) (ls : List Lt) : Prop := ∃ kvs, h[g]? = some (.dct kvs) ∧ TK kvs ∧ kvs.map (·.1) = ks.map pkp ∧ (∀ p ∈ ks, ∃ r, dget kvs (pkp p) = some (.ref r) ∧ h[r]? = some (.lst ((wq p.1 p.2 ls).map .str)) ∧ r ∉ M) ∧ (∀ x y, (x, y) ∉ ks → wq x y ls = [])
section
variable {h H : CH} {g : Nat} {M : List Nat} {ks : List (List Nat × List Nat)} {ls : List Lt}
theorem UD.off (U : UD h g M ks ls) (o : Off M h H) (hg : H[g]? = h[g]?) : UD H g M ks ls := by
  obtain ⟨kvs, g1, tk, kk, at', no⟩ := U
  exact ⟨kvs, by rw [hg]; exact g1, tk, kk, fun p hp => by
    obtain ⟨r, a, b, c⟩ := at' p hp
    exact ⟨r, a, o.get b c, c⟩, no⟩
theorem UD.off0 (U : UD h g M ks ls) (o : Off [] h H) : UD H g M ks ls := by
  obtain ⟨kvs, g1, _⟩ := id U
  exact U.off (o.mono (by simp)) (by rw [o.get g1 (by simp), g1])
theorem UD.nil : UD (h ++ [CO.dct []]) h.length M [] [] := ⟨[], get_new, (fun p hp => nomatch hp), rfl, (fun p hp => nomatch hp), fun _ _ _ => rfl⟩
theorem tupK_pk (x y : List Nat) : tupK (pk x y) = true := rfl
theorem UD.lt (U : UD h g M ks ls) : g < h.length := by
  obtain ⟨kvs, g1, _⟩ := U
  exact lt_of g1
theorem UD.get (U : UD h g M ks ls) (x y : List Nat) (o : Off [] h H) (hg : g < h.length) : ∃ q, meV .get (.ref g) [pk x y, .ref H.length] (H ++ [CO.lst []]) = some (.ref q, H ++ [CO.lst []]) ∧ (H ++ [CO.lst []])[q]? = some (.lst ((wq x y ls).map .str)) := by
  obtain ⟨kvs, g1, tk, kk, at', no⟩ := U
  have g2 : (H ++ [CO.lst []])[g]? = some (.dct kvs) := get_app (o.get g1 (by simp))
  have go := getO_dct (h := H ++ [CO.lst []]) (d := .ref H.length) (kok_tk tk (tupK_pk x y))
  rw [m_getR, g2, go]
  by_cases hk : (x, y) ∈ ks
  · obtain ⟨r, a, b, _⟩ := at' _ hk
    refine ⟨r, ?_, get_app (o.get b (by simp))⟩
    have : dget kvs (pk x y) = some (.ref r) := a
    rw [this]; rfl
  · refine ⟨H.length, ?_, by rw [no x y hk]; exact get_new⟩
    have : dget kvs (pk x y) = none := by
      cases e : dget kvs (pk x y) with
      | none => rfl
      | some v =>
        have := dget_key e
        rw [kk] at this
        exact absurd (pkp_mem (p := (x, y)) |>.mp this) hk
    rw [this]; rfl
theorem UD.ix (U : UD h g M ks ls) {x y : List Nat} (hk : (x, y) ∈ ks) : ∃ q, ixV (.ref g) (pk x y) h = some (.ref q) ∧ h[q]? = some (.lst ((wq x y ls).map .str)) ∧ q ∉ M := by
  obtain ⟨kvs, g1, tk, kk, at', no⟩ := U
  obtain ⟨r, a, b, c⟩ := at' _ hk
  exact ⟨r, by rw [x_dct g1 (kok_tk tk (tupK_pk x y))]; exact a, b, c⟩
theorem UD.upd (U : UD h g M ks ls) (o : Off [] h H) (hgM : g ∈ M) {x y : List Nat} {r : Nat} {ws : List (List Nat)} {ls' : List Lt} (hr : H[r]? = some (.lst (ws.map .str))) (hrM : r ∉ M) (e1 : wq x y ls' = ws) (e2 : ∀ a b, ¬ (a = x ∧ b = y) → wq a b ls' = wq a b ls) (hk : ks.length ≤ 1000) :
    ∃ H', setV (.ref g) (pk x y) (.ref r) H = some H' ∧ UD H' g M (insP ks (x, y)) ls' ∧ Off [g] H H' := by
  obtain ⟨kvs, g1, tk, kk, at', no⟩ := U
  have g2 := o.get g1 (by simp)
  have hl : kvs.length = ks.length := by have := congrArg List.length kk; simpa using this
  refine ⟨_, set_dct g2 (kok_tk tk (tupK_pk x y)) (lim_lt (by omega)), ⟨_, List.getElem?_set_self (lt_of g2), tk.put (tupK_pk x y), ?_, fun p hp => ?_, fun a b hn => ?_⟩, Off.set (by simp)⟩
  · rw [dput_keys, kk]
    unfold insP
    by_cases hm : (x, y) ∈ ks
    · have hm' : pk x y ∈ ks.map pkp := pkp_mem (p := (x, y)) |>.mpr hm
      rw [if_pos hm', if_pos hm]
    · have hm' : ¬ pk x y ∈ ks.map pkp := fun z => hm (pkp_mem (p := (x, y)) |>.mp z)
      rw [if_neg hm', if_neg hm, List.map_append]; rfl
  · by_cases hpx : p = (x, y)
    · subst hpx
      refine ⟨r, ?_, ?_, hrM⟩
      · have : pkp (x, y) = pk x y := rfl
        rw [this, dget_put, if_pos rfl]
      · rw [List.getElem?_set_ne (fun z => hrM (by rw [← z]; exact hgM))]
        rw [e1]; exact hr
    · have hp' : p ∈ ks := (insP_mem.mp hp).resolve_right hpx
      obtain ⟨q, a, b, c⟩ := at' p hp'
      refine ⟨q, ?_, ?_, c⟩
      · rw [dget_put, if_neg]
        · exact a
        · intro z
          have := pk_inj.mp z
          exact hpx (Prod.ext this.1.symm this.2.symm)
      · rw [List.getElem?_set_ne (fun z => c (by rw [← z]; exact hgM)), e2 p.1 p.2 (fun z => hpx (Prod.ext z.1 z.2))]
        exact o.get b (by simp)
  · have hx : ¬ (a = x ∧ b = y) := fun z => hn (insP_mem.mpr (.inr (Prod.ext z.1 z.2)))
    rw [e2 a b hx]
    exact no a b fun z => hn (insP_mem.mpr (.inl z))
end
end TH

/-! The rows of k13 to k17, as they are drawn. -/
namespace TH
open PySem
section
variable {F : Fns} {s : Env} {h : CH}
end
/-! ### hands -/
def H4 (i : Nat) : List (List Nat) := match i with
  | 0 => [[97], [98], [99], [100], [101]]
  | 1 => [[97, 98], [97], [97, 98, 99], [98], [98, 99]]
  | 2 => [[109, 101], [121, 111, 117], [116, 104, 101, 109], [97, 98, 99, 100, 101, 102, 103, 104], [117]]
  | _ => [[122, 122], [122], [121, 122], [121], [122, 122, 122, 122, 122, 122, 122, 122]]
end TH

/-! Letters drawn: sent, taken, put down. -/
namespace TH
open PySem
theorem strs_at {ks : List (List Nat)} {i : Int} (h0 : 0 ≤ i) (h1 : i < ks.length) : ∃ k, atI (ks.map CV.str) i = some (.str k) ∧ k ∈ ks := by
  have hl : i.toNat < ks.length := by omega
  exact ⟨ks[i.toNat], by rw [atI_int _ h0, List.getElem?_map, List.getElem?_eq_getElem hl]; rfl, List.getElem_mem hl⟩
/-! ### taken -/
def pv : CV → List Nat × List Nat
  | .tup [.str x, .str y] => (x, y)
  | _ => ([], [])
end TH

namespace TH
open PySem
/-! ### wells -/
def Wl (h : CH) (p : Nat) : Prop := ∃ a b : Int, h[p]? = some (.lst [.int a, .int b]) ∧ 0 ≤ b
theorem Wl.keep {S : List Nat} {h h' : CH} {p : Nat} (q : Wl h p) (o : Off S h h') (n : p ∉ S) : Wl h' p := by
  obtain ⟨a, b, e, r⟩ := q
  exact ⟨a, b, o.get e n, r⟩
theorem Wl.lt {h : CH} {p : Nat} (q : Wl h p) : p < h.length := by
  obtain ⟨a, b, e, r⟩ := q
  exact lt_of e
end TH

namespace TH
open PySem
/-! ### queues of letters -/
structure Qe where
  x : List Nat
  y : List Nat
  r : Nat
  ws : List (List Nat)
def Qe.kv (q : Qe) : CV × CV := (pk' q.x q.y, .ref q.r)
where pk' (x y : List Nat) : CV := .tup [.str x, .str y]
abbrev pkk (x y : List Nat) : CV := Qe.kv.pk' x y
structure Qs (ks : List (List Nat)) (h : CH) (g : Nat) (qs : List Qe) : Prop where
  cell : h[g]? = some (.dct (qs.map Qe.kv))
  at' : ∀ q ∈ qs, h[q.r]? = some (.lst (q.ws.map .str)) ∧ q.r ≠ g ∧ q.x ∈ ks ∧ q.y ∈ ks ∧ ∀ w ∈ q.ws, w.length ≤ 100
  ndr : (qs.map Qe.r).Nodup
  ndk : (qs.map fun q => pkk q.x q.y).Nodup
theorem Qs.off {ks : List (List Nat)} {S : List Nat} {h h' : CH} {g : Nat} {qs : List Qe} (Q : Qs ks h g qs) (o : Off S h h') (hg : g ∉ S) (hr : ∀ q ∈ qs, q.r ∉ S) : Qs ks h' g qs :=
  ⟨o.get Q.cell hg, fun q hq => ⟨o.get (Q.at' q hq).1 (hr q hq), (Q.at' q hq).2⟩, Q.ndr, Q.ndk⟩
theorem Qs.tk {ks : List (List Nat)} {h : CH} {g : Nat} {qs : List Qe} : TK (qs.map Qe.kv) := fun p hp => by
  obtain ⟨q, _, rfl⟩ := List.mem_map.mp hp
  rfl
/-- a word taken -/
def qpop (r : Nat) (qs : List Qe) : List Qe := qs.map fun p => if p.r = r then { p with ws := p.ws.tail } else p
theorem qpop_kv (r : Nat) (qs : List Qe) : (qpop r qs).map Qe.kv = qs.map Qe.kv := by
  unfold qpop
  rw [List.map_map]
  refine List.map_congr_left fun p _ => ?_
  simp only [Function.comp]
  split <;> rfl
theorem qpop_r (r : Nat) (qs : List Qe) : (qpop r qs).map Qe.r = qs.map Qe.r := by
  unfold qpop
  rw [List.map_map]
  refine List.map_congr_left fun p _ => ?_
  simp only [Function.comp]
  split <;> rfl
theorem qpop_k (r : Nat) (qs : List Qe) : (qpop r qs).map (fun q => pkk q.x q.y) = qs.map fun q => pkk q.x q.y := by
  unfold qpop
  rw [List.map_map]
  refine List.map_congr_left fun p _ => ?_
  simp only [Function.comp]
  split <;> rfl
theorem Qs.pop {ks : List (List Nat)} {h : CH} {g : Nat} {qs : List Qe} (Q : Qs ks h g qs) {q : Qe} (hq : q ∈ qs) {w : List Nat} {rest : List (List Nat)} (hw : q.ws = w :: rest) : Qs ks (h.set q.r (.lst (rest.map .str))) g (qpop q.r qs) := by
  obtain ⟨c, ne, hx, hy⟩ := Q.at' q hq
  refine ⟨by rw [List.getElem?_set_ne ne, qpop_kv]; exact Q.cell, fun p hp => ?_, by rw [qpop_r]; exact Q.ndr, by rw [qpop_k]; exact Q.ndk⟩
  obtain ⟨p0, hp0, rfl⟩ := List.mem_map.mp hp
  obtain ⟨c0, ne0, hx0, hy0, hw0⟩ := Q.at' p0 hp0
  by_cases e : p0.r = q.r
  · rw [if_pos e]
    have hpq : p0.ws = q.ws := by
      rw [e, c] at c0
      have := Option.some.inj c0
      simp only [CO.lst.injEq] at this
      have inj : ∀ a b : List (List Nat), a.map CV.str = b.map CV.str → a = b := fun a b z => (List.map_inj_right fun _ _ y => by cases y; rfl).mp z
      exact (inj _ _ this).symm
    refine ⟨?_, ne0, hx0, hy0, fun w hw => hw0 w (List.mem_of_mem_tail hw)⟩
    show (h.set q.r _)[p0.r]? = some (.lst (p0.ws.tail.map .str))
    rw [e, List.getElem?_set_self (lt_of c), hpq, hw]
    rfl
  · rw [if_neg e]
    exact ⟨by rw [List.getElem?_set_ne (Ne.symm e)]; exact c0, ne0, hx0, hy0, hw0⟩
/-- words put -/
def qput (x y : List Nat) (r : Nat) (ws : List (List Nat)) (qs : List Qe) : List Qe := if (qs.any fun q => decide (pkk q.x q.y = pkk x y)) = true then qs.map fun p => if pkk p.x p.y = pkk x y then ⟨x, y, r, ws⟩ else p else qs ++ [⟨x, y, r, ws⟩]
theorem qput_kv (x y : List Nat) (r : Nat) (ws : List (List Nat)) (qs : List Qe) : (qput x y r ws qs).map Qe.kv = dput (qs.map Qe.kv) (pkk x y) (.ref r) := by
  unfold qput dput
  rw [List.any_map]
  have ea : (qs.any ((fun kv : CV × CV => decide (kv.1 = pkk x y)) ∘ Qe.kv)) = qs.any fun q => decide (pkk q.x q.y = pkk x y) := rfl
  rw [ea]
  split
  · rw [List.map_map, List.map_map]
    refine List.map_congr_left fun p _ => ?_
    simp only [Function.comp]
    have : (Qe.kv p).1 = pkk p.x p.y := rfl
    by_cases e : pkk p.x p.y = pkk x y
    · rw [if_pos e, if_pos (this.trans e), this, e]; rfl
    · rw [if_neg e, if_neg fun z => e (this.symm.trans z)]
  · rw [List.map_append]; rfl
theorem qput_mem {x y : List Nat} {r : Nat} {ws : List (List Nat)} {qs : List Qe} {p : Qe} (hp : p ∈ qput x y r ws qs) : p = ⟨x, y, r, ws⟩ ∨ (p ∈ qs ∧ pkk p.x p.y ≠ pkk x y) := by
  unfold qput at hp
  split at hp
  · obtain ⟨p0, h0, rfl⟩ := List.mem_map.mp hp
    by_cases e : pkk p0.x p0.y = pkk x y
    · rw [if_pos e]; exact .inl rfl
    · rw [if_neg e]; exact .inr ⟨h0, e⟩
  · rename_i hn
    rcases List.mem_append.mp hp with h | h
    · exact .inr ⟨h, fun e => hn (List.any_eq_true.mpr ⟨p, h, decide_eq_true e⟩)⟩
    · exact .inl (List.mem_singleton.mp h)
theorem qmap_ndr {x y : List Nat} {r : Nat} {ws : List (List Nat)} : ∀ {qs : List Qe}, (qs.map Qe.r).Nodup → (qs.map fun q => pkk q.x q.y).Nodup → (∀ q ∈ qs, q.r ≠ r) → ((qs.map fun p => if pkk p.x p.y = pkk x y then (⟨x, y, r, ws⟩ : Qe) else p).map Qe.r).Nodup
  | [], _, _, _ => List.nodup_nil
  | p :: qs, nr, nk, fr => by
    rw [List.map_cons, List.nodup_cons] at nr nk
    have ih := qmap_ndr (x := x) (y := y) (r := r) (ws := ws) nr.2 nk.2 fun q hq => fr q (List.mem_cons_of_mem _ hq)
    rw [List.map_cons, List.map_cons, List.nodup_cons]
    refine ⟨fun z => ?_, ih⟩
    obtain ⟨p1, h1, e1⟩ := List.mem_map.mp z
    obtain ⟨p0, h0, rfl⟩ := List.mem_map.mp h1
    by_cases e : pkk p.x p.y = pkk x y
    · rw [if_pos e] at e1
      by_cases e0 : pkk p0.x p0.y = pkk x y
      · exact nk.1 (List.mem_map.mpr ⟨p0, h0, e0.trans e.symm⟩)
      · rw [if_neg e0] at e1
        exact fr p0 (List.mem_cons_of_mem _ h0) e1
    · rw [if_neg e] at e1
      by_cases e0 : pkk p0.x p0.y = pkk x y
      · rw [if_pos e0] at e1
        exact fr p List.mem_cons_self e1.symm
      · rw [if_neg e0] at e1
        exact nr.1 (List.mem_map.mpr ⟨p0, h0, e1⟩)
theorem qput_ndr {x y : List Nat} {r : Nat} {ws : List (List Nat)} {qs : List Qe} (nr : (qs.map Qe.r).Nodup) (nk : (qs.map fun q => pkk q.x q.y).Nodup) (fr : ∀ q ∈ qs, q.r ≠ r) : ((qput x y r ws qs).map Qe.r).Nodup := by
  unfold qput
  split
  · exact qmap_ndr nr nk fr
  · rw [List.map_append, List.nodup_append]
    exact ⟨nr, by simp, fun a ha b hb e => by
      obtain ⟨q, hq, rfl⟩ := List.mem_map.mp ha
      simp at hb
      exact fr q hq (e.trans hb)⟩
theorem qput_ndk {x y : List Nat} {r : Nat} {ws : List (List Nat)} {qs : List Qe} (nk : (qs.map fun q => pkk q.x q.y).Nodup) : ((qput x y r ws qs).map fun q => pkk q.x q.y).Nodup := by
  have e : ((qput x y r ws qs).map fun q => pkk q.x q.y) = ((qput x y r ws qs).map Qe.kv).map (·.1) := by rw [List.map_map]; rfl
  rw [e, qput_kv]
  refine dput_nodup ?_
  rw [List.map_map]
  exact nk
theorem Qs.put {ks : List (List Nat)} {h : CH} {g r : Nat} {x y : List Nat} {ws : List (List Nat)} {qs : List Qe} (Q : Qs ks h g qs) (hr : h[r]? = some (.lst (ws.map .str))) (hg : r ≠ g) (hx : x ∈ ks) (hy : y ∈ ks) (hws : ∀ w ∈ ws, w.length ≤ 100) (fr : ∀ q ∈ qs, q.r ≠ r) : Qs ks (h.set g (.dct (dput (qs.map Qe.kv) (pkk x y) (.ref r)))) g (qput x y r ws qs) := by
  refine ⟨by rw [List.getElem?_set_self (lt_of Q.cell), qput_kv], fun p hp => ?_, qput_ndr Q.ndr Q.ndk fr, qput_ndk Q.ndk⟩
  rcases qput_mem hp with rfl | ⟨h0, _⟩
  · exact ⟨by rw [List.getElem?_set_ne (Ne.symm hg)]; exact hr, hg, hx, hy, hws⟩
  · obtain ⟨c, ne, h1, h2⟩ := Q.at' p h0
    exact ⟨by rw [List.getElem?_set_ne (Ne.symm ne)]; exact c, ne, h1, h2⟩
end TH

namespace TH
open PySem
end TH

namespace TH
open PySem
end TH

namespace TH
open PySem
end TH

namespace TH
open PySem
/-! ### hands of a row, its views -/
def insN (ks : List (List Nat)) (k : List Nat) : List (List Nat) := if k ∈ ks then ks else ks ++ [k]
def nms (ks : List (List Nat)) : List Dd → List (List Nat)
  | [] => ks
  | d :: ds => nms (insN (insN ks d.a) d.b) ds
/-- the hands of a row -/
def hnd (ds : List Dd) : List CV := ((nms [] ds).map CV.str).mergeSort cle
def own (k : List Nat) (d : Dd) : Bool := decide ((if d.s = true then d.a else d.b) = k)
def vw (ds : List Dd) (k : List Nat) : List Dd := ds.filter (own k)
end TH

namespace TH
open PySem
/-! ### names -/
theorem insN_mem {ks : List (List Nat)} {k j : List Nat} : j ∈ insN ks k ↔ j ∈ ks ∨ j = k := by
  unfold insN
  split
  · exact ⟨.inl, fun h => h.elim id fun e => e ▸ ‹_›⟩
  · rw [List.mem_append, List.mem_singleton]
theorem nms_mem {j : List Nat} : ∀ (ds : List Dd) (ks : List (List Nat)), j ∈ nms ks ds ↔ j ∈ ks ∨ ∃ d ∈ ds, d.a = j ∨ d.b = j
  | [], ks => by simp [nms]
  | d :: ds, ks => by
    rw [nms, nms_mem ds, insN_mem, insN_mem]
    simp only [List.mem_cons, exists_eq_or_imp]
    constructor
    · rintro (((h | h) | h) | h)
      · exact .inl h
      · exact .inr (.inl (.inl h.symm))
      · exact .inr (.inl (.inr h.symm))
      · exact .inr (.inr h)
    · rintro (h | (h | h) | h)
      · exact .inl (.inl (.inl h))
      · exact .inl (.inl (.inr h.symm))
      · exact .inl (.inr h.symm)
      · exact .inr h
/-- whose view has something -/
theorem vw_none {ds : List Dd} {k : List Nat} (h : ∀ d ∈ ds, d.a ≠ k ∧ d.b ≠ k) : vw ds k = [] := by
  unfold vw
  rw [List.filter_eq_nil_iff]
  intro d hd z
  unfold own at z
  have := of_decide_eq_true z
  split at this
  · exact (h d hd).1 this
  · exact (h d hd).2 this
end TH

/-! A row, drawn. -/
namespace TH
open PySem
structure Rw (F : Fns) : Prop where
  take : Takes F
  sending : ∀ (h : CH) (p r : Nat) (ks : List (List Nat)), Pk h p → h[r]? = some (.lst (ks.map .str)) → r ≠ p → 2 ≤ ks.length → ks.length ≤ 1000 → ks.Nodup → ∃ (d : Dd) (h' : CH), F 95 [.ref p, .ref r] h = some (d.cv, h') ∧ d.s = true ∧ Off [p] h h' ∧ Pk h' p
  taking : ∀ (h : CH) (p g : Nat) (M : List Nat) (ks : List (List Nat × List Nat)) (ls : List Lt), Pk h p → UD h g M ks ls → p ∈ M → g ≠ p → ks.length ≤ 1000 → (∃ x y, wq x y ls ≠ []) → ∃ (d : Dd) (h' : CH), F 96 [.ref p, .ref g] h = some (d.cv, h') ∧ d.s = false ∧ first (ltOf d) ls = true ∧ Off [p] h h' ∧ Pk h' p
  done : ∀ (h : CH) (g : Nat) (M : List Nat) (ks : List (List Nat × List Nat)) (ls : List Lt) (d : Dd), UD h g M ks ls → g ∈ M → (∀ m ∈ M, m < h.length) → ks.length ≤ 1000 → ls.length ≤ 1000 → (d.s = false → first (ltOf d) ls = true) →
    ∃ h', F 97 [.ref g, d.cv] h = some (.non, h') ∧ UD h' g M (insP ks (d.a, d.b)) (if d.s = true then ls ++ [ltOf d] else ls.erase (ltOf d)) ∧ Off [g] h h'
/-- what holds between turns -/
structure I98 (p r g ro : Nat) (hs : List (List Nat)) (j : Nat) (h : CH) (ds : List Dd) (ls : List Lt) (ks : List (List Nat × List Nat)) : Prop where
  q : Pk h p
  gr : h[r]? = some (.lst (hs.map .str))
  go : h[ro]? = some (.lst (ds.map Dd.cv))
  U : UD h g [p, r, g, ro] ks ls
  nd : ks.Nodup
  qw : Qw ls ds
  cn : CanR ds
  dl : ds.length ≤ j
  kl : ks.length ≤ j
  ll : ls.length ≤ j
theorem I98.off {p r g ro j : Nat} {hs : List (List Nat)} {h h' : CH} {ds : List Dd} {ls : List Lt} {ks : List (List Nat × List Nat)} (I : I98 p r g ro hs j h ds ls ks) (o : Off [] h h') : I98 p r g ro hs j h' ds ls ks :=
  ⟨I.q.keep o (by simp), o.get I.gr (by simp), o.get I.go (by simp), I.U.off0 o, I.nd, I.qw, I.cn, I.dl, I.kl, I.ll⟩
theorem I98.up {p r g ro j k : Nat} {hs : List (List Nat)} {h : CH} {ds : List Dd} {ls : List Lt} {ks : List (List Nat × List Nat)} (I : I98 p r g ro hs j h ds ls ks) (hk : j ≤ k) : I98 p r g ro hs k h ds ls ks :=
  ⟨I.q, I.gr, I.go, I.U, I.nd, I.qw, I.cn, Nat.le_trans I.dl hk, Nat.le_trans I.kl hk, Nat.le_trans I.ll hk⟩
end TH

/-! Neighbours changed about: rows that can go, walked from one to another with the same views. -/
namespace TH
open PySem
theorem pre_app {α : Type} {a b : List α} (c : List α) (h : a <+: b) : a <+: b ++ c := h.trans (List.prefix_append _ _)
theorem CanR.at (h : CanR ds) {pre post : List Dd} (e : ds = pre ++ post) (x y : List Nat) : wds false x y pre <+: wds true x y pre := h pre post e x y
theorem CanR.pre {A B : List Dd} (h : CanR (A ++ B)) : CanR A := fun pre post e x y => h pre (post ++ B) (by rw [e, List.append_assoc]) x y
/-- neighbours changed about, one place behind another -/
inductive Wlk : List Dd → List Nat → List Dd → Prop
  | nil (R : List Dd) : Wlk R [] R
  | cons {A B S : List Dd} {e d : Dd} {P : List Nat} : hof e ≠ hof d → CanR (A ++ d :: e :: B) → Wlk (A ++ d :: e :: B) P S → Wlk (A ++ e :: d :: B) (A.length :: P) S
theorem Wlk.trans {R S T : List Dd} {P Q : List Nat} (h : Wlk R P S) (g : Wlk S Q T) : Wlk R (P ++ Q) T := by
  induction h with
  | nil R => exact g
  | cons a b c ih => exact .cons a b (ih g)
theorem Wlk.len {R S : List Dd} {P : List Nat} (h : Wlk R P S) : R.length = S.length := by
  induction h with
  | nil R => rfl
  | cons a b c ih => rw [← ih]; simp
theorem view_swap {A B : List Dd} {e d : Dd} (h : hof e ≠ hof d) (x : List Nat) : (A ++ d :: e :: B).filter (ownB x) = (A ++ e :: d :: B).filter (ownB x) := by
  rw [List.filter_append, List.filter_append]
  congr 1
  rw [List.filter_cons, List.filter_cons, List.filter_cons, List.filter_cons]
  by_cases h1 : ownB x e = true
  · by_cases h2 : ownB x d = true
    · unfold ownB at h1 h2
      exact absurd ((of_decide_eq_true h1).trans (of_decide_eq_true h2).symm) h
    · rw [if_neg h2, if_neg h2]
  · rw [if_neg h1, if_neg h1]
theorem Wlk.view {R S : List Dd} {P : List Nat} (h : Wlk R P S) (x : List Nat) : R.filter (ownB x) = S.filter (ownB x) := by
  induction h with
  | nil R => rfl
  | cons a b c ih => rw [← ih, view_swap a]
theorem Wlk.can {R S : List Dd} {P : List Nat} (h : Wlk R P S) (c : CanR R) : CanR S := by
  induction h with
  | nil R => exact c
  | cons a b c ih => exact ih b
/-- down to its place -/
def dn (n : Nat) : Nat → List Nat
  | 0 => []
  | k + 1 => (n + k) :: dn n k
end TH

/-! The first hand apart (89, 105). -/
namespace TH
open PySem
/-! ### texts in order -/
def leN (a b : List Nat) : Bool := decide (a ≤ b)
def nsort (ds : List Dd) : List (List Nat) := (nms [] ds).mergeSort leN
theorem nsort_mem {ds : List Dd} {k : List Nat} : k ∈ nsort ds ↔ k ∈ nms [] ds := (List.mergeSort_perm _ _).mem_iff
/-! ### 89 and 105 -/
def apart (ds es : List Dd) : Option (List Nat) := (nsort (ds ++ es)).find? fun k => !decide (vw ds k = vw es k)
def apV : Option (List Nat) → CV
  | some k => .str k
  | none => .non
end TH

/-! changed (90), walked. -/
namespace TH
open PySem
section
variable {F : Fns} {W : Nat} {s : Env} {h : CH}
end
def HofF (F : Fns) : Prop := ∀ (h : CH) (d : Dd), F 3 [d.cv] h = some (.str (hof d), h)
end TH

/-! changed (90), told; the law's walk (104), its own first hand apart (105). -/
namespace TH
open PySem
def partedS : List Nat := [112, 97, 114, 116, 101, 100]
def changesS : List Nat := [99, 104, 97, 110, 103, 101, 115]
def Changed (ds es : List Dd) (v : CV) : Prop := (∃ k, apart ds es = some k ∧ v = .tup [.str partedS, .str k]) ∨ (∃ P, apart ds es = none ∧ v = .tup [.str changesS, .tup (P.map nI)] ∧ Wlk ds P es)
end TH

/-! Neighbours changed about, by the law: 103, 104. -/
namespace TH
open PySem
section
variable {F : Fns} {s : Env} {h : CH}
end
def CanF (F : Fns) : Prop := ∀ (h : CH) (ds : List Dd), ds.length ≤ 1000 → ∃ h', F 102 [.tup (ds.map Dd.cv)] h = some (.bl (canW [] ds), h') ∧ Off [] h h'
structure Shf (ds es : List Dd) : Prop where
  len : es.length = ds.length
  view : ∀ x, es.filter (ownB x) = ds.filter (ownB x)
  can : CanR ds → CanR es
  perm : es.Perm ds
theorem Shf.refl (ds : List Dd) : Shf ds ds := ⟨rfl, fun _ => rfl, id, .refl _⟩
end TH

/-! k13: told of two rows (106), a row put otherwise (107), the law (108). -/
namespace TH
open PySem
structure Rs13 (F : Fns) : Prop where
  ch : ∀ (h : CH) (ds es : List Dd), ds.length ≤ 200 → es.length ≤ 200 → CanR ds → CanR es → ∃ v h', F 90 [.tup (ds.map Dd.cv), .tup (es.map Dd.cv)] h = some (v, h') ∧ Changed ds es v ∧ Off [] h h'
  ap : ∀ (h : CH) (ds es : List Dd), ds.length ≤ 400 → es.length ≤ 400 → ∃ h', F 105 [.tup (ds.map Dd.cv), .tup (es.map Dd.cv)] h = some (apV (apart ds es), h') ∧ Off [] h h'
  wk : ∀ (h : CH) (R S : List Dd) (P : List Nat), Wlk R P S → R.length ≤ 400 → ∃ h', F 104 [.tup (R.map Dd.cv), .tup (S.map Dd.cv), .tup (P.map nI)] h = some (.bl true, h') ∧ Off [] h h'
def RightF13 (F : Fns) : Prop := ∀ (h : CH) (ds es : List Dd), ds.length ≤ 200 → es.length ≤ 200 → CanR ds → CanR es → ∃ h', F 106 [.tup (ds.map Dd.cv), .tup (es.map Dd.cv)] h = some (.bl true, h') ∧ Off [] h h'
/-! ### a row put otherwise (107) -/
def SendF (F : Fns) : Prop := ∀ (h : CH) (p r : Nat) (ks : List (List Nat)), Pk h p → h[r]? = some (.lst (ks.map .str)) → r ≠ p → 2 ≤ ks.length → ks.length ≤ 1000 → ks.Nodup → ∃ (d : Dd) (h' : CH), F 95 [.ref p, .ref r] h = some (d.cv, h') ∧ d.s = true ∧ Off [p] h h' ∧ Pk h' p
def oth : List Nat := [111, 116, 104, 101, 114]
end TH

/-! The law k13. -/
namespace TH
open PySem
def PackF (F : Fns) : Prop := ∀ (h : CH) (ns : List Int) (k : Nat), (∀ z ∈ ns, z.natAbs < 2 ^ 1048576) → ∃ r h', F 92 [.lst (ns.map CV.int), .int (k : Int)] h = some (.ref r, h') ∧ h.length ≤ r ∧ Off [] h h' ∧ Pk h' r
def HandsF (F : Fns) : Prop := ∀ (h : CH) (p : Nat), Pk h p → ∃ (r : Nat) (ks : List (List Nat)) (h' : CH), F 94 [.ref p] h = some (.ref r, h') ∧ h'[r]? = some (.lst (ks.map .str)) ∧ 2 ≤ ks.length ∧ ks.length ≤ 5 ∧ ks.Nodup ∧ h.length ≤ r ∧ Off [p] h h' ∧ Pk h' p ∧ ∃ i, ∀ k ∈ ks, k ∈ H4 i
def RowF (F : Fns) : Prop := ∀ (h : CH) (p r n : Nat) (st : Bool) (hs : List (List Nat)), Pk h p → h[r]? = some (.lst (hs.map .str)) → r ≠ p → 2 ≤ hs.length → hs.length ≤ 1000 → hs.Nodup → n ≤ 100 → ∃ (ds : List Dd) (h' : CH), F 98 [.ref p, .ref r, .int (n : Int), .bl st] h = some (.tup (ds.map Dd.cv), h') ∧ CanR ds ∧ ds.length ≤ 2 * n ∧ Off [p] h h' ∧ Pk h' p
def ShufF (F : Fns) : Prop := ∀ (h : CH) (p n : Nat) (ds : List Dd), Pk h p → ds.length ≤ 400 → n ≤ 1000 → ∃ es h', F 103 [.ref p, .tup (ds.map Dd.cv), nI n] h = some (.tup (es.map Dd.cv), h') ∧ Shf ds es ∧ Off [p] h h' ∧ Pk h' p
structure L13 (F : Fns) : Prop where
  take : Takes F
  pack : PackF F
  hands : HandsF F
  row : RowF F
  shuf : ShufF F
  oth : ∀ (h : CH) (p r : Nat) (ks : List (List Nat)) (ds : List Dd), Pk h p → h[r]? = some (.lst (ks.map .str)) → r ≠ p → 2 ≤ ks.length → ks.length ≤ 1000 → ks.Nodup → ds.length ≤ 200 → ∃ (es : List Dd) (h' : CH), F 107 [.ref p, .tup (ds.map Dd.cv), .ref r] h = some (.tup (es.map Dd.cv), h') ∧ es.length ≤ ds.length + 1 ∧ Off [p] h h' ∧ Pk h' p
  right : RightF13 F
  can : CanF F
end TH

/-! What must come ahead of each deed (109). -/
namespace TH
open PySem
/-- what a take waits for -/
def mate (ds : List Dd) (j : Nat) : List Nat := if (dat ds j).s = true then [] else ((kix ds true (dat ds j).a (dat ds j).b j)[(kix ds false (dat ds j).a (dat ds j).b j).length]?).toList
def needs (ds : List Dd) (j : Nat) : List Nat := prevO ds j ++ mate ds j
def needA (ds : List Dd) (j : Nat) : List (List Nat) := (List.range j).map (needs ds)
/-! ### the sent ones, by pairs -/
def SD (ds : List Dd) (l0 j : Nat) (h : CH) (g : Nat) (M : List Nat) : Prop := ∃ kvs, h[g]? = some (.dct kvs) ∧ TK kvs ∧ kvs.length ≤ j ∧ (∀ x y, (dget kvs (pk x y) = none ∧ kix ds true x y j = []) ∨ ∃ r, dget kvs (pk x y) = some (.ref r) ∧ h[r]? = some (.lst ((kix ds true x y j).map nI)) ∧ r ∉ M ∧ l0 ≤ r) ∧ (∀ x y x' y' r, dget kvs (pk x y) = some (.ref r) → dget kvs (pk x' y') = some (.ref r) → x = x' ∧ y = y')
section
variable {ds : List Dd} {l0 j g : Nat} {h H : CH} {M : List Nat}
theorem SD.off {S : List Nat} (D : SD ds l0 j h g M) (o : Off S h H) (hS : ∀ i ∈ S, i ∈ M) (hg : H[g]? = h[g]?) : SD ds l0 j H g M := by
  obtain ⟨kvs, g1, tk, kl, at', inj⟩ := D
  refine ⟨kvs, hg.trans g1, tk, kl, fun x y => ?_, inj⟩
  rcases at' x y with a | ⟨r, a, b, c, d⟩
  · exact .inl a
  · exact .inr ⟨r, a, o.get b (fun z => c (hS _ z)), c, d⟩
theorem SD.new (D : SD ds l0 j h g M) {n : Nat} (hn : h.length ≤ n) : SD ds l0 j h g (M ++ [n]) := by
  obtain ⟨kvs, g1, tk, kl, at', inj⟩ := D
  refine ⟨kvs, g1, tk, kl, fun x y => ?_, inj⟩
  rcases at' x y with a | ⟨r, a, b, c, d⟩
  · exact .inl a
  · have := lt_of b
    exact .inr ⟨r, a, b, by simp; exact ⟨c, by omega⟩, d⟩
theorem SD.take (D : SD ds l0 j h g M) {d : Dd} (e : ds[j]? = some d) (hd : d.s = false) : SD ds l0 (j + 1) h g M := by
  obtain ⟨kvs, g1, tk, kl, at', inj⟩ := D
  have hk : ∀ x y, kix ds true x y (j + 1) = kix ds true x y j := fun x y => by
    rw [kix_succ, isK_at e, hd]; simp
  exact ⟨kvs, g1, tk, by omega, fun x y => by rw [hk]; exact at' x y, inj⟩
theorem kix_le (ds : List Dd) (s : Bool) (x y : List Nat) (j : Nat) : (kix ds s x y j).length ≤ j := by
  unfold kix
  have := List.length_filter_le (atP ds (isK s x y)) (List.range j)
  rwa [List.length_range] at this
/-- one more is sent -/
theorem SD.send (D : SD ds l0 j h g M) {d : Dd} (e : ds[j]? = some d) (hd : d.s = true) (hgM : g ∈ M) (hM : ∀ m ∈ M, m < h.length) (hl : l0 ≤ h.length) (hj : j ≤ 1000) :
    ∃ r H0 H', meV .setdefault (.ref g) [pk d.a d.b, .ref h.length] (h ++ [CO.lst []]) = some (.ref r, H0) ∧ recvOk .append (.ref r) H0 = true ∧ meV .append (.ref r) [nI j] H0 = some (.non, H') ∧ SD ds l0 (j + 1) H' g M ∧ Off [g, r] h H' ∧ r ∉ M ∧ l0 ≤ r := by
  obtain ⟨kvs, g1, tk, kl, at', inj⟩ := D
  have gl := lt_of g1
  have g2 : (h ++ [CO.lst []])[g]? = some (.dct kvs) := get_app g1
  have kk := kok_tk tk (tupK_pk d.a d.b)
  have sd := m_setd (d := .ref h.length) g2 kk (lim_lt (by omega))
  have hk1 : kix ds true d.a d.b (j + 1) = kix ds true d.a d.b j ++ [j] := by rw [kix_succ, isK_at e, hd]; simp
  have hk2 : ∀ x y, ¬ (x = d.a ∧ y = d.b) → kix ds true x y (j + 1) = kix ds true x y j := fun x y hn => by
    rw [kix_succ, isK_at e, hd, decide_eq_false (fun z => hn ⟨z.1.symm, z.2.symm⟩)]; simp
  rcases at' d.a d.b with ⟨dn, kn⟩ | ⟨r, dr, cr, hrM, hr0⟩
  · rw [dn] at sd
    have cn : ((h ++ [CO.lst []]).set g (.dct (dput kvs (pk d.a d.b) (.ref h.length))))[h.length]? = some (.lst ([] : List CV)) := by
      rw [List.getElem?_set_ne (by omega)]; exact get_new
    have ap := m_append (v := nI j) cn (by decide)
    refine ⟨h.length, _, _, sd, r_append cn, ap, ⟨dput kvs (pk d.a d.b) (.ref h.length), ?_, tk.put (tupK_pk _ _), by have := dput_len (kvs := kvs) (k := pk d.a d.b) (v := .ref h.length); omega, fun x y => ?_, fun x y x' y' r h1 h2 => ?_⟩, ?_, fun z => by have := hM _ z; omega, hl⟩
    · rw [List.getElem?_set_ne (by omega), List.getElem?_set_self (lt_of g2)]
    · by_cases hxy : x = d.a ∧ y = d.b
      · obtain ⟨rfl, rfl⟩ := hxy
        refine .inr ⟨h.length, by rw [dget_put, if_pos rfl], ?_, fun z => by have := hM _ z; omega, hl⟩
        rw [List.getElem?_set_self (lt_of cn), hk1, kn]
        rfl
      · rw [dget_put, if_neg (fun z => hxy ⟨(pk_inj.mp z).1.symm, (pk_inj.mp z).2.symm⟩), hk2 x y hxy]
        rcases at' x y with a | ⟨q, a, b, c, d'⟩
        · exact .inl a
        · have hq := lt_of b
          refine .inr ⟨q, a, ?_, c, d'⟩
          rw [List.getElem?_set_ne (by omega), List.getElem?_set_ne (fun z => c (by rw [← z]; exact hgM))]
          exact get_app b
    · have key : ∀ x y, dget (dput kvs (pk d.a d.b) (.ref h.length)) (pk x y) = some (.ref r) → (x = d.a ∧ y = d.b ∧ r = h.length) ∨ (dget kvs (pk x y) = some (.ref r) ∧ r < h.length) := fun x y hh => by
        rw [dget_put] at hh
        split at hh
        · rename_i z
          have := pk_inj.mp z
          refine .inl ⟨this.1.symm, this.2.symm, ?_⟩
          have := Option.some.inj hh
          injection this with this
          exact this.symm
        · refine .inr ⟨hh, ?_⟩
          rcases at' x y with ⟨a, _⟩ | ⟨q, a, b, _, _⟩
          · rw [a] at hh; cases hh
          · rw [a] at hh
            have := Option.some.inj hh
            injection this with this
            rw [← this]; exact lt_of b
      rcases key x y h1 with ⟨a1, a2, a3⟩ | ⟨a1, a2⟩ <;> rcases key x' y' h2 with ⟨b1, b2, b3⟩ | ⟨b1, b2⟩
      · exact ⟨a1.trans b1.symm, a2.trans b2.symm⟩
      · omega
      · omega
      · exact inj x y x' y' r a1 b1
    · exact ((Off.app _ _ _).trans (Off.set (by simp))).trans (Off.set (by simp))
  · rw [dr] at sd
    have c2 : (h ++ [CO.lst []])[r]? = some (.lst ((kix ds true d.a d.b j).map nI)) := get_app cr
    have ap := m_append (v := nI j) c2 (lim_lt (by rw [List.length_map]; have := kix_le ds true d.a d.b j; omega))
    have hrg : r ≠ g := fun z => hrM (by rw [z]; exact hgM)
    refine ⟨r, _, _, sd, r_append c2, ap, ⟨kvs, by rw [List.getElem?_set_ne hrg]; exact g2, tk, by omega, fun x y => ?_, inj⟩, ?_, hrM, hr0⟩
    · by_cases hxy : x = d.a ∧ y = d.b
      · obtain ⟨rfl, rfl⟩ := hxy
        refine .inr ⟨r, dr, ?_, hrM, hr0⟩
        rw [List.getElem?_set_self (lt_of c2), hk1, List.map_append]
        rfl
      · rw [hk2 x y hxy]
        rcases at' x y with a | ⟨q, a, b, c, d'⟩
        · exact .inl a
        · refine .inr ⟨q, a, ?_, c, d'⟩
          have hqr : r ≠ q := fun z => hxy (by
            subst z
            exact inj x y d.a d.b r a dr)
          rw [List.getElem?_set_ne hqr]
          exact get_app b
    · exact (Off.app _ _ _).trans (Off.set (by simp))
/-- the one that is waited for -/
theorem SD.ix (D : SD ds l0 j h g M) {x y : List Nat} {k n : Nat} (hk : (kix ds true x y j)[k]? = some n) : ∃ r, ixV (.ref g) (pk x y) h = some (.ref r) ∧ ixV (.ref r) (nI k) h = some (nI n) := by
  obtain ⟨kvs, g1, tk, kl, at', inj⟩ := D
  rcases at' x y with ⟨_, a⟩ | ⟨r, a, b, _, _⟩
  · rw [a] at hk; cases hk
  · exact ⟨r, by rw [x_dct g1 (kok_tk tk (tupK_pk x y))]; exact a, by rw [nI_eq, x_lst b]; exact at_nI hk⟩
end
end TH

/-! ahead_of (109), walked. -/
namespace TH
open PySem
def LastD (ds : List Dd) (j : Nat) (h : CH) (g : Nat) : Prop := ∃ kvs, h[g]? = some (.dct kvs) ∧ LK kvs ∧ kvs.length ≤ j ∧ ∀ x, dget kvs (.str x) = (befo ds x j).getLast?.map nI
def TakD (ds : List Dd) (j : Nat) (h : CH) (g : Nat) : Prop := ∃ kvs, h[g]? = some (.dct kvs) ∧ TK kvs ∧ kvs.length ≤ j ∧ ∀ x y, (dget kvs (pk x y)).getD (.int 0) = nI (kix ds false x y j).length
section
variable {F : Fns} {W : Nat} {ds : List Dd} {g1 g2 g3 g4 j : Nat} {d : Dd} {h : CH} {x11 : Option CV}
structure B4 (ds : List Dd) (l0 g1 g2 g3 g4 j n : Nat) (M : List Nat) (h h' : CH) : Prop where
  sent : SD ds l0 (j + 1) h' g2 M
  taken : TakD ds (j + 1) h' g3
  cell : h'[n]? = some (.lst ((needs ds j).map nI))
  off : ∃ S, Off S h h' ∧ ∀ i ∈ S, (i = g2 ∨ i = g3 ∨ i = n ∨ i ∉ M) ∧ l0 ≤ i
end
structure I109 (ds : List Dd) (h0 : CH) (g1 g2 g3 g4 j : Nat) (h : CH) (rs : List Nat) : Prop where
  last : LastD ds j h g1
  sent : SD ds h0.length j h g2 ([g1, g2, g3, g4] ++ rs)
  taken : TakD ds j h g3
  rows : LLs h g4 rs (needA ds j)
  rsn : ∀ r ∈ rs, h0.length ≤ r ∧ r ≠ g1 ∧ r ≠ g2 ∧ r ≠ g3
  off : Off [] h0 h
end TH

/-! Least rows, plainly. -/
namespace TH
open PySem
def nextOk (fd : List Dd) (d : Dd) : Prop := d.s = true ∨ wds false d.a d.b fd ++ [d.c] <+: wds true d.a d.b fd
abbrev Vw := List Nat → List Dd
def Cnd (V : Vw) (fd : List Dd) (d : Dd) : Prop := (V (hof d))[(fd.filter (ownB (hof d))).length]? = some d ∧ nextOk fd d
/-- deed by deed the least that can go next -/
inductive Lst (V : Vw) : List Dd → List Dd → Prop
  | nil {fd : List Dd} : (∀ x, fd.filter (ownB x) = V x) → Lst V fd []
  | cons {fd o : List Dd} {d : Dd} : Cnd V fd d → (∀ e, Cnd V fd e → d.t ≤ e.t) → Lst V (fd ++ [d]) o → Lst V fd (d :: o)
def Vs' (ds : List Dd) : Vw := fun x => ds.filter (ownB x)
theorem own_isK' {s : Bool} {x y : List Nat} (ds : List Dd) : ds.filter (isK s x y) = (ds.filter (ownB (who s x y))).filter (isK s x y) := by
  rw [List.filter_filter]
  refine (List.filter_congr fun d _ => ?_).symm
  cases h : isK s x y d with
  | false => simp
  | true => simp [isK_who h]
theorem wds_view {fd ge : List Dd} (h : ∀ x, fd.filter (ownB x) = ge.filter (ownB x)) (s : Bool) (x y : List Nat) : wds s x y fd = wds s x y ge := by
  unfold wds
  rw [own_isK' fd, own_isK' ge, h]
theorem nextOk.view {fd ge : List Dd} {d : Dd} (h : ∀ x, fd.filter (ownB x) = ge.filter (ownB x)) (k : nextOk fd d) : nextOk ge d := by
  unfold nextOk at *
  rw [← wds_view h, ← wds_view h]
  exact k
theorem Cnd.view {V : Vw} {fd ge : List Dd} {d : Dd} (h : ∀ x, fd.filter (ownB x) = ge.filter (ownB x)) (k : Cnd V fd d) : Cnd V ge d := ⟨by rw [← h]; exact k.1, k.2.view h⟩
theorem Lst.all {V : Vw} {fd o : List Dd} (h : Lst V fd o) (x : List Nat) : (fd ++ o).filter (ownB x) = V x := by
  induction h with
  | nil hv => rw [List.append_nil]; exact hv x
  | cons c m r ih => rw [← ih]; simp
theorem CanR.next {fd : List Dd} {d : Dd} (c : CanR fd) (k : nextOk fd d) : CanR (fd ++ [d]) := by
  refine c.snoc fun x y => ?_
  have h0 := c fd [] (by simp) x y
  rw [wds_app, wds_app, wds_one, wds_one]
  by_cases h1 : isK false x y d = true
  · obtain ⟨hs, rfl, rfl⟩ := isK_own h1
    rw [if_pos h1, if_neg (by simp [isK, hs]), List.append_nil]
    rcases k with k | k
    · rw [hs] at k; cases k
    · exact k
  · rw [if_neg h1, List.append_nil]
    exact pre_app _ h0
theorem Lst.can {V : Vw} {fd o : List Dd} (h : Lst V fd o) (c : CanR fd) : CanR (fd ++ o) := by
  induction h with
  | nil hv => rw [List.append_nil]; exact c
  | cons k m r ih =>
    have := ih (c.next k.2)
    rwa [List.append_assoc] at this
/-- there is a least row behind -/
theorem Cnd.mem {ds fd : List Dd} {d : Dd} (c : Cnd (Vs' ds) fd d) : d ∈ ds := (List.mem_filter.mp (List.mem_of_getElem? c.1)).1
theorem Cnd.pre {ds fd : List Dd} {d : Dd} (p : ∀ x, fd.filter (ownB x) <+: ds.filter (ownB x)) (c : Cnd (Vs' ds) fd d) (x : List Nat) : (fd ++ [d]).filter (ownB x) <+: ds.filter (ownB x) := by
  rw [List.filter_append]
  by_cases h : x = hof d
  · subst h
    rw [List.filter_cons_of_pos (show ownB (hof d) d = true from decide_eq_true rfl), List.filter_nil]
    obtain ⟨t, ht⟩ := p (hof d)
    have h1 : (ds.filter (ownB (hof d)))[(fd.filter (ownB (hof d))).length]? = some d := c.1
    rw [← ht, List.getElem?_append_right (Nat.le_refl _), Nat.sub_self] at h1
    cases t with
    | nil => cases h1
    | cons a t =>
      simp at h1
      subst h1
      exact ⟨t, by rw [← ht]; simp⟩
  · rw [List.filter_cons_of_neg (by unfold ownB; simp; exact fun z => h z.symm), List.filter_nil, List.append_nil]
    exact p x
/-! ### by the numbers -/
section
variable {r : Nat} {ds : List Dd} {o : List Nat}
theorem GoodD.own (T : GoodD r ds o) (x : List Nat) : ∃ t, t ≤ (ixs ds (ownB x)).length ∧ o.filter (atP ds (ownB x)) = (ixs ds (ownB x)).take t := by
  have := chain_take (ixs_nodup ds (ownB x)) T.nd (fun pre i post e m j h1 h2 => T.ord pre i post e j (.inl ⟨x, m, h1, h2⟩)) o [] (by simp)
  rw [filt_mem] at this
  exact this
theorem GoodD.kind (T : GoodD r ds o) (s : Bool) (x y : List Nat) : ∃ t, t ≤ (ixs ds (isK s x y)).length ∧ o.filter (atP ds (isK s x y)) = (ixs ds (isK s x y)).take t := by
  obtain ⟨t, _, ht⟩ := T.own (who s x y)
  obtain ⟨t', h1, h2⟩ := filter_take (atP ds (isK s x y)) (ixs ds (ownB (who s x y))) t
  rw [ixs_sub fun d h => isK_who h] at h1 h2
  refine ⟨t', h1, ?_⟩
  rw [← h2, ← ht, List.filter_filter]
  refine (List.filter_congr fun i _ => ?_).symm
  unfold atP
  cases ds[i]? with
  | none => rfl
  | some d =>
    dsimp only
    cases hg : isK s x y d with
    | false => simp
    | true => simp [isK_who hg]
theorem GoodD.pre (T : GoodD r ds o) (x : List Nat) : (rowOf ds o).filter (ownB x) <+: ds.filter (ownB x) := by
  obtain ⟨t, h1, h2⟩ := T.own x
  rw [rowOf_filter T.lt, h2, ← ixs_row]
  unfold rowOf
  rw [List.map_take]
  exact List.take_prefix _ _
theorem GoodD.len (T : GoodD r ds o) (x : List Nat) {t : Nat} (h1 : t ≤ (ixs ds (ownB x)).length) (h2 : o.filter (atP ds (ownB x)) = (ixs ds (ownB x)).take t) : ((rowOf ds o).filter (ownB x)).length = t := by
  rw [rowOf_filter T.lt, h2]
  unfold rowOf
  rw [List.length_map, List.length_take]
  omega
theorem GoodD.wds (T : GoodD r ds o) (s : Bool) (x y : List Nat) {t : Nat} (h2 : o.filter (atP ds (isK s x y)) = (ixs ds (isK s x y)).take t) : TH.wds s x y (rowOf ds o) = (TH.wds s x y ds).take t := by
  unfold TH.wds
  rw [rowOf_filter T.lt, h2, ← ixs_row]
  unfold rowOf
  rw [List.map_take, List.map_take]
end
end TH

/-! least_of (110), least_row (111), walked. -/
namespace TH
open PySem
/-- a deed with its number -/
def bn (ds : List Dd) (k : Nat) : CV := .tup [(dat ds k).cv, nI k]
section
variable {F : Fns} {W : Nat} {ds : List Dd} {ga g dn fo : Nat} {x5 x6 : Option CV} {h : CH} {rs done : List Nat} {A : List (List Nat)}
end
/-- the states of the loop -/
structure J110 (r : Nat) (ds : List Dd) (h0 : CH) (gone : List Nat) (g dn fo : Nat) (rs : List Nat) (A : List (List Nat)) (pk : List Nat) (h : CH) : Prop where
  rows : LLs h g rs A
  done : h[dn]? = some (.lst ((gone ++ pk).map nI))
  found : h[fo]? = some (.lst ((rowOf ds pk).map Dd.cv))
  good : GoodD r ds (gone ++ pk)
  off : Off [dn, fo] h0 h
end TH

/-! A list looked at by the law (102); what is to be done by each hand, in a dict. -/
namespace TH
open PySem
/-! ### what is to be done -/
structure To (h : CH) (kvs : List (CV × CV)) (M : List Nat) (ks : List (List Nat)) (rem : List Nat → List Dd) : Prop where
  lk : LK kvs
  keys : kvs.map (·.1) = ks.map CV.str
  at' : ∀ x ∈ ks, ∃ r, dget kvs (.str x) = some (.ref r) ∧ h[r]? = some (.lst ((rem x).map Dd.cv)) ∧ r ∉ M
  inj : ∀ x y r, dget kvs (.str x) = some (.ref r) → dget kvs (.str y) = some (.ref r) → x = y
theorem To.off {h h' : CH} {kvs : List (CV × CV)} {M S : List Nat} {ks : List (List Nat)} {rem : List Nat → List Dd} (T : To h kvs M ks rem) (o : Off S h h') (hS : ∀ i ∈ S, i ∈ M) : To h' kvs M ks rem :=
  ⟨T.lk, T.keys, fun x hx => by
    obtain ⟨r, a, b, c⟩ := T.at' x hx
    exact ⟨r, a, o.get b (fun z => c (hS _ z)), c⟩, T.inj⟩
theorem To.pop {h : CH} {kvs : List (CV × CV)} {M : List Nat} {ks : List (List Nat)} {rem : List Nat → List Dd} (T : To h kvs M ks rem) {x : List Nat} (hx : x ∈ ks) {d : Dd} {rest : List Dd} (e : rem x = d :: rest) :
    ∃ r, dget kvs (.str x) = some (.ref r) ∧ h[r]? = some (.lst ((d :: rest).map Dd.cv)) ∧ r ∉ M ∧ To (h.set r (.lst (rest.map Dd.cv))) kvs M ks (put1 rem x rest) := by
  obtain ⟨r, a, b, c⟩ := T.at' x hx
  refine ⟨r, a, by rw [← e]; exact b, c, T.lk, T.keys, fun y hy => ?_, T.inj⟩
  obtain ⟨q, a2, b2, c2⟩ := T.at' y hy
  refine ⟨q, a2, ?_, c2⟩
  unfold put1
  by_cases hyx : y = x
  · subst hyx
    rw [a] at a2
    cases a2
    rw [if_pos rfl, List.getElem?_set_self (lt_of b)]
  · rw [if_neg hyx, List.getElem?_set_ne (fun z => hyx (by subst z; exact T.inj y x r a2 a))]
    exact b2
/-- behind some deeds: what each hand has still to do -/
structure Td3 (V : Vw) (ks : List (List Nat)) (rem : List Nat → List Dd) (fd : List Dd) : Prop where
  sp : ∀ x, fd.filter (ownB x) ++ rem x = V x
  own : ∀ x, ∀ d ∈ V x, hof d = x
  can : CanR fd
  kn : ∀ x, x ∉ ks → rem x = []
theorem Td3.go {V : Vw} {ks : List (List Nat)} {rem : List Nat → List Dd} {fd : List Dd} (T : Td3 V ks rem fd) {d : Dd} (c : Cnd V fd d) : ∃ rest, rem (hof d) = d :: rest ∧ hof d ∈ ks ∧ Td3 V ks (put1 rem (hof d) rest) (fd ++ [d]) := by
  have h1 := c.1
  rw [← T.sp (hof d), List.getElem?_append_right (Nat.le_refl _), Nat.sub_self] at h1
  cases hr : rem (hof d) with
  | nil => rw [hr] at h1; cases h1
  | cons a rest =>
    rw [hr] at h1
    simp at h1
    subst h1
    have hk : hof a ∈ ks := Classical.byContradiction fun z => by rw [T.kn _ z] at hr; cases hr
    refine ⟨rest, rfl, hk, fun x => ?_, T.own, T.can.next c.2, fun x hx => ?_⟩
    · unfold put1
      by_cases hx : x = hof a
      · subst hx
        rw [if_pos rfl, List.filter_append, List.filter_cons_of_pos (show ownB (hof a) a = true from decide_eq_true rfl), ← T.sp (hof a), hr]
        simp
      · rw [if_neg hx, List.filter_append, List.filter_cons_of_neg (by unfold ownB; simp; exact fun z => hx z.symm), ← T.sp x]
        simp
    · unfold put1
      rw [if_neg (fun z => hx (by rw [z]; exact hk))]
      exact T.kn x hx
end TH

/-! The least row, by the law (112). -/
namespace TH
open PySem
/-- the state between turns -/
structure K112 (V : Vw) (ks : List (List Nat)) (kvs : List (CV × CV)) (h0 : CH) (g fo : Nat) (fd : List Dd) (rem : List Nat → List Dd) (h : CH) : Prop where
  dict : h[g]? = some (.dct kvs)
  todo : To h kvs [g, fo] ks rem
  found : h[fo]? = some (.lst (fd.map Dd.cv))
  td : Td3 V ks rem fd
end TH

/-! The least row, by the law (112), whole. -/
namespace TH
open PySem
theorem To.new {h : CH} {kvs : List (CV × CV)} {M : List Nat} {ks : List (List Nat)} {rem : List Nat → List Dd} (T : To h kvs M ks rem) {n : Nat} (hn : h.length ≤ n) : To h kvs (M ++ [n]) ks rem :=
  ⟨T.lk, T.keys, fun x hx => by
    obtain ⟨r, a, b, c⟩ := T.at' x hx
    have := lt_of b
    exact ⟨r, a, b, by simp; exact ⟨c, by omega⟩⟩, T.inj⟩
theorem To.mono {h : CH} {kvs : List (CV × CV)} {M N : List Nat} {ks : List (List Nat)} {rem : List Nat → List Dd} (T : To h kvs M ks rem) (hn : ∀ i ∈ N, i ∈ M) : To h kvs N ks rem :=
  ⟨T.lk, T.keys, fun x hx => by
    obtain ⟨r, a, b, c⟩ := T.at' x hx
    exact ⟨r, a, b, fun z => c (hn _ z)⟩, T.inj⟩
theorem Td3.start {ds : List Dd} : Td3 (Vs' ds) (nsort ds) (fun x => ds.filter (ownB x)) [] :=
  ⟨fun x => rfl, fun x d hd => of_decide_eq_true (List.mem_filter.mp hd).2, CanR.nil, fun x hx => vw_none (ds := ds) fun d hd => ⟨fun e => hx (nsort_mem.mpr ((nms_mem ds []).mpr (.inr ⟨d, hd, .inl e⟩))), fun e => hx (nsort_mem.mpr ((nms_mem ds []).mpr (.inr ⟨d, hd, .inr e⟩)))⟩⟩
theorem Td3.pre {ds : List Dd} {ks : List (List Nat)} {rem : List Nat → List Dd} {fd : List Dd} (T : Td3 (Vs' ds) ks rem fd) (x : List Nat) : fd.filter (ownB x) <+: ds.filter (ownB x) := ⟨rem x, T.sp x⟩
end TH

/-! The law k14. -/
namespace TH
open PySem
def LRowF (F : Fns) : Prop := ∀ (h : CH) (ds : List Dd), CanR ds → ds.length ≤ 1000 → ∃ (o : List Dd) (h' : CH), F 111 [.tup (ds.map Dd.cv)] h = some (.tup (o.map Dd.cv), h') ∧ Lst (Vs' ds) [] o ∧ Off [] h h'
structure L14 (F : Fns) : Prop where
  take : Takes F
  pack : PackF F
  hands : HandsF F
  row : RowF F
  shuf : ShufF F
  least : ∀ (h : CH) (a : Nat) (ds : List Dd), CanR ds → h[a]? = some (.lst []) → ds.length ≤ 800 → ∃ (o : List Dd) (h' : CH), F 112 [.ref a, .tup (ds.map Dd.cv)] h = some (.tup (o.map Dd.cv), h') ∧ Lst (Vs' ds) [] o ∧ Off [] h h'
  lrow : LRowF F
  can : CanF F
end TH

/-! Beginnings (117, 119). -/
namespace TH
open PySem
def preB (ds es : List Dd) (k : List Nat) : Bool := decide ((vw es k).take (vw ds k).length = vw ds k)
def Beg (ds es : List Dd) : Prop := ∀ x, ds.filter (ownB x) <+: es.filter (ownB x)
noncomputable def begB (ds es : List Dd) : Bool := (nsort ds).all (preB ds es)
def VwF (F : Fns) (f : Nat) : Prop := ∀ (h : CH) (ds : List Dd) (k : List Nat), ds.length ≤ 1000 → ∃ h', F f [.tup (ds.map Dd.cv), .str k] h = some (.tup ((vw ds k).map Dd.cv), h') ∧ Off [] h h'
end TH

/-! The rest behind a beginning (118). -/
namespace TH
open PySem
/-- what rest tells -/
def Rest (ds es : List Dd) (v : CV) : Prop := (begB ds es = false ∧ v = .non) ∨ (begB ds es = true ∧ ∃ o, v = .tup (o.map Dd.cv) ∧ Lst (Vs' es) ds o)
structure Re (F : Fns) : Prop where
  hof : HofF F
  hands : ∀ (h : CH) (ds : List Dd), ds.length ≤ 1000 → ∃ h', F 73 [.tup (ds.map Dd.cv)] h = some (.tup (hnd ds), h') ∧ Off [] h h'
  view : VwF F 74
  beg : ∀ (h : CH) (ds es : List Dd), ds.length ≤ 1000 → es.length ≤ 1000 → ∃ h', F 117 [.tup (ds.map Dd.cv), .tup (es.map Dd.cv)] h = some (.bl (begB ds es), h') ∧ Off [] h h'
  least : ∀ (h : CH) (ds : List Dd) (gone : List Nat) (ga : Nat), CanR ds → ds.length ≤ 1000 → h[ga]? = some (.lst (gone.map nI)) → GoodD ds.length ds gone → ∃ (o : List Dd) (h' : CH), F 110 [.tup (ds.map Dd.cv), .ref ga] h = some (.tup (o.map Dd.cv), h') ∧ Lst (Vs' ds) (rowOf ds gone) o ∧ Off [] h h'
end TH

/-! The rest, by the law (120). -/
namespace TH
open PySem
end TH

/-! k16: told of two rows (121), the law (122). -/
namespace TH
open PySem
structure R16 (F : Fns) : Prop where
  lbeg : ∀ (h : CH) (ds es : List Dd), ds.length ≤ 800 → es.length ≤ 800 → ∃ h', F 119 [.tup (ds.map Dd.cv), .tup (es.map Dd.cv)] h = some (.bl (begB ds es), h') ∧ Off [] h h'
  beg : ∀ (h : CH) (ds es : List Dd), ds.length ≤ 1000 → es.length ≤ 1000 → ∃ h', F 117 [.tup (ds.map Dd.cv), .tup (es.map Dd.cv)] h = some (.bl (begB ds es), h') ∧ Off [] h h'
  rest : ∀ (h : CH) (ds es : List Dd), CanR ds → CanR es → ds.length ≤ 1000 → es.length ≤ 1000 → ∃ (v : CV) (h' : CH), F 118 [.tup (ds.map Dd.cv), .tup (es.map Dd.cv)] h = some (v, h') ∧ Rest ds es v ∧ Off [] h h'
  lrest : ∀ (h : CH) (ds es : List Dd), CanR ds → CanR es → Beg ds es → ds.length ≤ 800 → es.length ≤ 800 → ∃ (o : List Dd) (h' : CH), F 120 [.tup (ds.map Dd.cv), .tup (es.map Dd.cv)] h = some (.tup (o.map Dd.cv), h') ∧ Lst (Vs' es) ds o ∧ Off [] h h'
def rowV' (r : List Dd) : CV := .tup (r.map Dd.cv)
structure L16 (F : Fns) : Prop where
  take : Takes F
  pack : PackF F
  hands : HandsF F
  send : SendF F
  row : RowF F
  shuf : ShufF F
  right : ∀ (h : CH) (ds es : List Dd), CanR ds → CanR es → ds.length ≤ 800 → es.length ≤ 800 → ∃ h', F 121 [.tup (ds.map Dd.cv), .tup (es.map Dd.cv)] h = some (.bl true, h') ∧ Off [] h h'
  can : CanF F
end TH

/-! k17: told of four rows (123). -/
namespace TH
open PySem
structure R17 (F : Fns) : Prop where
  beg : ∀ (h : CH) (ds es : List Dd), ds.length ≤ 1000 → es.length ≤ 1000 → ∃ h', F 117 [.tup (ds.map Dd.cv), .tup (es.map Dd.cv)] h = some (.bl (begB ds es), h') ∧ Off [] h h'
  rest : ∀ (h : CH) (ds es : List Dd), CanR ds → CanR es → ds.length ≤ 1000 → es.length ≤ 1000 → ∃ (v : CV) (h' : CH), F 118 [.tup (ds.map Dd.cv), .tup (es.map Dd.cv)] h = some (v, h') ∧ Rest ds es v ∧ Off [] h h'
  lrow : LRowF F
  alike : ∀ (h : CH) (ds es : List Dd), ds.length ≤ 200 → es.length ≤ 200 → ∃ (b : Bool) (h' : CH), F 78 [.tup (ds.map Dd.cv), .tup (es.map Dd.cv)] h = some (.bl b, h') ∧ (b = true ↔ ∀ x, ds.filter (ownB x) = es.filter (ownB x)) ∧ Off [] h h'
  ch : ∀ (h : CH) (ds es : List Dd), ds.length ≤ 200 → es.length ≤ 200 → CanR ds → CanR es → ∃ v h', F 90 [.tup (ds.map Dd.cv), .tup (es.map Dd.cv)] h = some (v, h') ∧ Changed ds es v ∧ Off [] h h'
end TH

/-! The law k17. -/
namespace TH
open PySem
structure L17 (F : Fns) : Prop where
  take : Takes F
  pack : PackF F
  hands : HandsF F
  row : RowF F
  shuf : ShufF F
  right : ∀ (h : CH) (ds es fs gs : List Dd), CanR ds → CanR es → CanR fs → CanR gs → (∀ x, es.filter (ownB x) = ds.filter (ownB x)) → Beg fs gs → Beg gs ds → ds.length ≤ 100 → ∃ h', F 123 [rowV' ds, rowV' es, rowV' fs, rowV' gs] h = some (.bl true, h') ∧ Off [] h h'
end TH

namespace TH
open PySem
structure Gs (F : Fns) : Prop where
  row : ∀ (h : CH) (v : CV), Typ h v → (∀ xs, v = .tup xs → xs.length ≤ 1000 ∧ ∀ x ∈ xs, TD h x) → ∃ h', F 12 [v] h = some (.bl (rowV v), h') ∧ Off [] h h'
  is : ∀ (h : CH) (a b : Bool), F 14 [.bl a, .bl b] h = some (.bl (a == b), h)
  pool : ∀ (h : CH) (i : Int), ∃ h', F 4 [.int i] h = some (.ref h.length, h') ∧ Off [] h h' ∧ Pool h' h.length
  draw : Draws F
  hands : ∀ (h : CH) (p : Nat) (n : Int), Pool h p → 0 ≤ n → n < 26 → ∃ (ks : List (List Nat)) (h' : CH), F 7 [.ref p, .int n] h = some (.ref h.length, h') ∧ h'[h.length]? = some (.lst (ks.map CV.str)) ∧ ks.length = n.toNat ∧ ks.Nodup ∧ (∀ k ∈ ks, Nm k) ∧ Off [p] h h' ∧ Pool h' p
  any : ∀ (h : CH) (p r w : Nat) (ks ws : List (List Nat)), Pool h p → h[r]? = some (.lst (ks.map .str)) → h[w]? = some (.lst (ws.map .str)) → r ≠ p → w ≠ p → ks.Nodup → (∀ k ∈ ks, Nm k) → (∀ k ∈ ws, Nm k) → 2 ≤ ks.length → ks.length < 26 → 0 < ws.length → ws.length < 26 →
    ∃ xs h', F 13 [.ref p, .ref r, .ref w, .int 20] h = some (.tup xs, h') ∧ (∀ x ∈ xs, DeedOf x) ∧ xs.length ≤ 20 ∧ Off [p] h h' ∧ Pool h' p
  no : ∀ (h : CH) (xs : List CV) (m : Int) (a b : List Nat), (∀ x ∈ xs, DeedOf x) → xs.length ≤ 20 → Nm a → Nm b → a ≠ b → ∃ r h' ys, F 15 [.tup xs, .int m, .str a, .str b] h = some (.ref r, h') ∧ h'[r]? = some (.lst ys) ∧ (∀ y ∈ ys, NR h' y) ∧ ys.length ≤ 100 ∧ Off [] h h'
end TH

/-! The names of k26 and k27: unlike ones, small letters. -/
namespace TH
open PySem
theorem repS_mem {c d : Nat} : ∀ {n : Nat}, d ∈ repS [c] n → d = c
  | 0, h => by simp [repS] at h
  | n + 1, h => by
    rw [repS, List.mem_append] at h
    rcases h with h | h
    · exact List.mem_singleton.mp h
    · exact repS_mem h
theorem run_hands218 (F : Fns) (W : Nat) (hT : Takes F) {h : CH} {p : Nat} (q : Pk h p) : ∃ (r : Nat) (ks : List (List Nat)) (h' : CH), runC F W n218.length b218 [.ref p] h = some (.ref r, h') ∧ h'[r]? = some (.lst (ks.map .str)) ∧ 2 ≤ ks.length ∧ ks.length ≤ 4 ∧ h.length ≤ r ∧ Off [p] h h' ∧ Pk h' p ∧ ks.Nodup ∧ ∀ k ∈ ks, Nm k := by
  obtain ⟨t, h1, e1, t0, t1, o1, q1⟩ := hT h p 26 q (by decide) (by decide)
  obtain ⟨k, h2, e2, k0, k1, o2, q2⟩ := hT h1 p 3 q1 (by decide) (by decide)
  obtain ⟨z, h3, e3, z0, z1, o3, q3⟩ := hT h2 p 8 q2 (by decide) (by decide)
  obtain ⟨a, h4, e4, a0, a1, o4, q4⟩ := hT h3 p 3 q3 (by decide) (by decide)
  have o := ((o1.trans o2).trans o3).trans o4
  have la : al.length ≤ lim := lim_big (by decide)
  have ld := cut_fr al t0
  have lt' := cut_tt al t0
  have hlen : (al.drop t.toNat ++ al.take t.toNat).length = 26 := by
    rw [List.length_append, List.length_drop, List.length_take, al_len]; omega
  have va := fun h => v_addS (h := h) (a := al.drop t.toNat) (b := al.take t.toNat) (by rw [← List.length_append, hlen]; exact lim_big (by decide))
  have hnd : (al.drop t.toNat ++ al.take t.toNat).Nodup := by
    refine (List.perm_append_comm (l₁ := al.drop t.toNat) (l₂ := al.take t.toNat)).nodup_iff.mpr ?_
    rw [List.take_append_drop]
    decide
  have hLa : ∀ c ∈ al.drop t.toNat ++ al.take t.toNat, c ∈ al := fun c hc => (List.mem_append.mp hc).elim List.mem_of_mem_drop List.mem_of_mem_take
  generalize al.drop t.toNat ++ al.take t.toNat = L at hlen va hnd hLa
  have lL : L.length ≤ lim := by rw [hlen]; exact lim_big (by decide)
  have sm : small62 (2 + a) = true := by unfold small62; simp only [Bool.and_eq_true, decide_eq_true_eq]; omega
  obtain ⟨n, hn⟩ : ∃ n : Nat, 2 + a = (n : Int) := ⟨(2 + a).toNat, by omega⟩
  have hn1 : 2 ≤ n ∧ n ≤ 4 := by omega
  rw [hn] at sm
  obtain ⟨zn, rfl⟩ : ∃ zn : Nat, z = (zn : Int) := ⟨z.toNat, by omega⟩
  have c4 : (cut L (some 4) (some (4 + (zn : Int)))).length ≤ 7 := by
    have e : cut L (some 4) (some (4 + (zn : Int))) = (L.take (4 + zn)).drop 4 := by
      have := cut_fromto L 4 (4 + zn)
      rw [show ((4 + zn : Nat) : Int) = 4 + (zn : Int) by omega] at this
      exact this
    rw [e, List.length_drop, List.length_take]
    omega
  have c4m : ∀ c ∈ cut L (some 4) (some (4 + (zn : Int))), c ∈ al := fun c hc => hLa c (cut_mem hc)
  have fin : ∀ (elt : CE) (f : Nat → List Nat), (∀ i j, i < n → j < n → f i = f j → i = j) → (∀ j, j < n → Nm (f j)) → (∀ j : Nat, j < n → evalC F elt [some (.ref p), some (.str L), some (.int t), some (.int k), some (.int (zn : Int)), some (.int (2 + a)), some (.int (0 + (j : Int)))] h4 = some (.str (f j), h4)) →
      ∃ ks : List (List Nat), compK F elt (.lit (.bl true)) 6 [some (.ref p), some (.str L), some (.int t), some (.int k), some (.int (zn : Int)), some (.int (2 + a)), none] (.ints 0 n) h4 = some (.ref h4.length, h4 ++ [.lst (ks.map .str)]) ∧ ks.length = n ∧ ks.Nodup ∧ ∀ k ∈ ks, Nm k :=
    fun elt f hi hm he => ⟨(List.range n).map f, comp_textsF (by omega) he, by simp, by
      refine List.pairwise_map.mpr ?_
      refine List.Pairwise.imp_of_mem ?_ List.nodup_range
      intro a b ha hb hab e
      exact hab (hi a b (List.mem_range.mp ha) (List.mem_range.mp hb) e), fun k hk => by
      obtain ⟨j, hj, rfl⟩ := List.mem_map.mp hk
      exact hm j (List.mem_range.mp hj)⟩
  have hz : ∀ j : Nat, (0 : Int) + (j : Int) = (j : Int) := fun j => by omega
  unfold al at va la ld lt'
  have ix : ∀ j : Nat, j < n → atI L (j : Int) = some (L.getD j 0) := fun j hj => by
    rw [atI_nat, List.getD_eq_getElem?_getD, List.getElem?_eq_getElem (by omega)]; rfl
  have Linj : ∀ i j, i < n → j < n → L.getD i 0 = L.getD j 0 → i = j := fun i j hi hj e => by
    rw [List.getD_eq_getElem?_getD, List.getD_eq_getElem?_getD, List.getElem?_eq_getElem (by omega), List.getElem?_eq_getElem (by omega)] at e
    exact (List.getElem_inj hnd).mp e
  have Lal : ∀ j, j < n → L.getD j 0 ∈ al := fun j hj => by
    rw [List.getD_eq_getElem?_getD, List.getElem?_eq_getElem (by omega)]
    exact hLa _ (List.getElem_mem _)
  have L0al := Lal 0 (by omega)
  by_cases hk0 : k = 0
  · subst hk0
    have ec0 := ix 0 (by omega)
    rw [show ((0 : Nat) : Int) = 0 from rfl] at ec0
    generalize L.getD 0 0 = c0 at ec0 L0al
    obtain ⟨ks, ec, hl, hne, hnm⟩ := fin (.bin .mul (.ix (.var 1) (.lit (.int 0))) (.bin .add (.lit (.int 1)) (.bin .mod (.bin .add (.var 4) (.var 6)) (.lit (.int 8))))) (fun j => repS [c0] (1 + ((zn : Int) + (0 + (j : Int))) % 8).toNat) (fun i j hi hj e => by
      have := congrArg List.length e
      rw [repS_lenR, repS_lenR] at this
      simp only [List.length_cons, List.length_nil] at this
      omega) (fun j hj => by
      have m1 : 0 ≤ ((zn : Int) + (0 + (j : Int))) % 8 := Int.emod_nonneg _ (by decide)
      have m2 : ((zn : Int) + (0 + (j : Int))) % 8 < 8 := Int.emod_lt_of_pos _ (by decide)
      refine ⟨?_, ?_, fun c hc => ?_⟩
      · rw [repS_lenR]; simp only [List.length_cons, List.length_nil]; omega
      · rw [repS_lenR]; simp only [List.length_cons, List.length_nil]; omega
      · rw [repS_mem hc]; exact L0al) (fun j hj => by
      have m1 : 0 ≤ ((zn : Int) + (0 + (j : Int))) % 8 := Int.emod_nonneg _ (by decide)
      have m2 : ((zn : Int) + (0 + (j : Int))) % 8 < 8 := Int.emod_lt_of_pos _ (by decide)
      have ms := v_mulS (h := h4) (s := [c0]) (k := 1 + ((zn : Int) + (0 + (j : Int))) % 8) ⟨by omega, by omega, lim_big (by simp only [List.length_cons, List.length_nil]; omega)⟩
      simp only [run_eq, List.length_cons, List.length_nil, List.map_cons, List.map_nil, List.cons_append, List.nil_append, List.replicate, List.set_cons_zero, List.set_cons_succ, x_cons, x_nil, seqC_nx, seqC_rt, x_asg, asgK_nm, asgK_sub, retS_some, retH_some, sub1_eq, sub2_eq, x_expr, exK_eq, x_ret, retK_eq, x_retn, x_iff, iffK_t, iffK_f, x_fo, x_pas, x_par, runK_nx, runK_rt, bindE_some, bindL_some, bindO_some, bindI_some, bindB_some, liftB_some, retV_some, asB_bl, bin1_eq, e_bin, cmpK_eq, cmp1_eq, e_cmp, cmpR_t, cmpR_f, cmp2a_eq, e_cmp2, cmpR3_t, cmpR3_f, cmp3a_eq, e_cmp3, e_and, e_or, andK_t, andK_f, orK_t, orK_f, bOut_eq, notK_eq, e_not, negK_int, e_neg, iteK_t, iteK_f, e_ite, tupK2_eq, e_tup, lstK_eq, e_lst, e_dct0, ixK_eq, ix1_eq, e_ix, sl1_eq, sl2_eq, e_sl, e_rev, o_no, o_ex, oK_int, e_call, e_bi, e_me, s_nil, s_cons, consA_eq, consB_eq, e_lit, e_glob, e_var0, e_varS, e_comp, i_range1, i_range2, r2a_eq, i_val, vK_tup, vK_str, t_lit, t_cmp, t_cmp2, t_cmp3, t_call, t_bi, t_var, t_and, t_or, t_not, andT_t, andT_f, orT_t, orT_f, notT_eq, v_add, v_sub, c_lt, c_le, c_gt, c_ge, c_eqI, c_neI, c_eqS, c_neS, c_isN, c_isnotN, c_isB, c_isnotB, x_tup, x_lstV, sl_lstV, sl_tup, b_lenT, b_lenV, decide_true, decide_false, Bool.not_true, Bool.not_false, x_str lL ec0, v_mod (show (0 : Int) < 8 by decide), ms])
    refine ⟨h4.length, ks, _, ?_, get_new, by omega, by omega, o.len, o.trans (Off.app _ _ _), q4.keep (Off.app [] _ _) (by simp), hne, hnm⟩
    simp only [b218, n218, run_eq, List.length_cons, List.length_nil, List.map_cons, List.map_nil, List.cons_append, List.nil_append, List.replicate, List.set_cons_zero, List.set_cons_succ, x_cons, x_nil, seqC_nx, seqC_rt, x_asg, asgK_nm, asgK_sub, retS_some, retH_some, sub1_eq, sub2_eq, x_expr, exK_eq, x_ret, retK_eq, x_retn, x_iff, iffK_t, iffK_f, x_fo, x_pas, x_par, runK_nx, runK_rt, bindE_some, bindL_some, bindO_some, bindI_some, bindB_some, liftB_some, retV_some, asB_bl, bin1_eq, e_bin, cmpK_eq, cmp1_eq, e_cmp, cmpR_t, cmpR_f, cmp2a_eq, e_cmp2, cmpR3_t, cmpR3_f, cmp3a_eq, e_cmp3, e_and, e_or, andK_t, andK_f, orK_t, orK_f, bOut_eq, notK_eq, e_not, negK_int, e_neg, iteK_t, iteK_f, e_ite, tupK2_eq, e_tup, lstK_eq, e_lst, e_dct0, ixK_eq, ix1_eq, e_ix, sl1_eq, sl2_eq, e_sl, e_rev, o_no, o_ex, oK_int, e_call, e_bi, e_me, s_nil, s_cons, consA_eq, consB_eq, e_lit, e_glob, e_var0, e_varS, e_comp, i_range1, i_range2, r2a_eq, i_val, vK_tup, vK_str, t_lit, t_cmp, t_cmp2, t_cmp3, t_call, t_bi, t_var, t_and, t_or, t_not, andT_t, andT_f, orT_t, orT_f, notT_eq, v_add, v_sub, c_lt, c_le, c_gt, c_ge, c_eqI, c_neI, c_eqS, c_neS, c_isN, c_isnotN, c_isB, c_isnotB, x_tup, x_lstV, sl_lstV, sl_tup, b_lenT, b_lenV, decide_true, decide_false, Bool.not_true, Bool.not_false, at0, at1, at2, at3, Nat.reduceAdd, Nat.reduceSub, Nat.reduceMul, Int.reduceAdd, Int.reduceSub, Int.reduceMul, Int.reduceNeg, Int.reduceLT, Int.reduceLE, Int.reduceToNat, Int.cast_ofNat_Int, e1, sl_str la, ld, lt', va, e2, e3, e4, r1K_int sm, hn, Int.toNat_natCast]
    rw [hn] at ec
    rw [ec]
    rfl
  · by_cases hk1 : k = 1
    · subst hk1
      obtain ⟨ks, ec, hl, hne, hnm⟩ := fin (.bin .add (.ix (.var 1) (.var 6)) (.sl (.var 1) (.ex (.lit (.int 4))) (.ex (.bin .add (.lit (.int 4)) (.var 4))))) (fun j => [L.getD j 0] ++ cut L (some 4) (some (4 + (zn : Int)))) (fun i j hi hj e => Linj i j hi hj (by simpa using e)) (fun j hj => ⟨by simp, by simp; omega, fun c hc => (List.mem_append.mp hc).elim (fun z => by rw [List.mem_singleton.mp z]; exact Lal j hj) (c4m c)⟩) (fun j hj => by
        have e := ix j hj
        generalize L.getD j 0 = c at e ⊢
        have ms := v_addS (h := h4) (a := [c]) (b := cut L (some 4) (some (4 + (zn : Int)))) (lim_big (by simp only [List.length_cons, List.length_nil]; omega))
        simp only [run_eq, List.length_cons, List.length_nil, List.map_cons, List.map_nil, List.cons_append, List.nil_append, List.replicate, List.set_cons_zero, List.set_cons_succ, x_cons, x_nil, seqC_nx, seqC_rt, x_asg, asgK_nm, asgK_sub, retS_some, retH_some, sub1_eq, sub2_eq, x_expr, exK_eq, x_ret, retK_eq, x_retn, x_iff, iffK_t, iffK_f, x_fo, x_pas, x_par, runK_nx, runK_rt, bindE_some, bindL_some, bindO_some, bindI_some, bindB_some, liftB_some, retV_some, asB_bl, bin1_eq, e_bin, cmpK_eq, cmp1_eq, e_cmp, cmpR_t, cmpR_f, cmp2a_eq, e_cmp2, cmpR3_t, cmpR3_f, cmp3a_eq, e_cmp3, e_and, e_or, andK_t, andK_f, orK_t, orK_f, bOut_eq, notK_eq, e_not, negK_int, e_neg, iteK_t, iteK_f, e_ite, tupK2_eq, e_tup, lstK_eq, e_lst, e_dct0, ixK_eq, ix1_eq, e_ix, sl1_eq, sl2_eq, e_sl, e_rev, o_no, o_ex, oK_int, e_call, e_bi, e_me, s_nil, s_cons, consA_eq, consB_eq, e_lit, e_glob, e_var0, e_varS, e_comp, i_range1, i_range2, r2a_eq, i_val, vK_tup, vK_str, t_lit, t_cmp, t_cmp2, t_cmp3, t_call, t_bi, t_var, t_and, t_or, t_not, andT_t, andT_f, orT_t, orT_f, notT_eq, v_add, v_sub, c_lt, c_le, c_gt, c_ge, c_eqI, c_neI, c_eqS, c_neS, c_isN, c_isnotN, c_isB, c_isnotB, x_tup, x_lstV, sl_lstV, sl_tup, b_lenT, b_lenV, decide_true, decide_false, Bool.not_true, Bool.not_false, hz, x_str lL e, sl_str lL, ms])
      refine ⟨h4.length, ks, _, ?_, get_new, by omega, by omega, o.len, o.trans (Off.app _ _ _), q4.keep (Off.app [] _ _) (by simp), hne, hnm⟩
      simp only [b218, n218, run_eq, List.length_cons, List.length_nil, List.map_cons, List.map_nil, List.cons_append, List.nil_append, List.replicate, List.set_cons_zero, List.set_cons_succ, x_cons, x_nil, seqC_nx, seqC_rt, x_asg, asgK_nm, asgK_sub, retS_some, retH_some, sub1_eq, sub2_eq, x_expr, exK_eq, x_ret, retK_eq, x_retn, x_iff, iffK_t, iffK_f, x_fo, x_pas, x_par, runK_nx, runK_rt, bindE_some, bindL_some, bindO_some, bindI_some, bindB_some, liftB_some, retV_some, asB_bl, bin1_eq, e_bin, cmpK_eq, cmp1_eq, e_cmp, cmpR_t, cmpR_f, cmp2a_eq, e_cmp2, cmpR3_t, cmpR3_f, cmp3a_eq, e_cmp3, e_and, e_or, andK_t, andK_f, orK_t, orK_f, bOut_eq, notK_eq, e_not, negK_int, e_neg, iteK_t, iteK_f, e_ite, tupK2_eq, e_tup, lstK_eq, e_lst, e_dct0, ixK_eq, ix1_eq, e_ix, sl1_eq, sl2_eq, e_sl, e_rev, o_no, o_ex, oK_int, e_call, e_bi, e_me, s_nil, s_cons, consA_eq, consB_eq, e_lit, e_glob, e_var0, e_varS, e_comp, i_range1, i_range2, r2a_eq, i_val, vK_tup, vK_str, t_lit, t_cmp, t_cmp2, t_cmp3, t_call, t_bi, t_var, t_and, t_or, t_not, andT_t, andT_f, orT_t, orT_f, notT_eq, v_add, v_sub, c_lt, c_le, c_gt, c_ge, c_eqI, c_neI, c_eqS, c_neS, c_isN, c_isnotN, c_isB, c_isnotB, x_tup, x_lstV, sl_lstV, sl_tup, b_lenT, b_lenV, decide_true, decide_false, Bool.not_true, Bool.not_false, at0, at1, at2, at3, Nat.reduceAdd, Nat.reduceSub, Nat.reduceMul, Int.reduceAdd, Int.reduceSub, Int.reduceMul, Int.reduceNeg, Int.reduceLT, Int.reduceLE, Int.reduceToNat, Int.cast_ofNat_Int, e1, sl_str la, ld, lt', va, e2, e3, e4, r1K_int sm, hn, Int.toNat_natCast, show decide ((1 : Int) = 0) = false from rfl]
      rw [hn] at ec
      rw [ec]
      rfl
    · obtain ⟨ks, ec, hl, hne, hnm⟩ := fin (.bin .add (.sl (.var 1) (.ex (.lit (.int 4))) (.ex (.bin .add (.lit (.int 4)) (.var 4)))) (.ix (.var 1) (.var 6))) (fun j => cut L (some 4) (some (4 + (zn : Int))) ++ [L.getD j 0]) (fun i j hi hj e => Linj i j hi hj (by simpa using e)) (fun j hj => ⟨by simp, by simp; omega, fun c hc => (List.mem_append.mp hc).elim (c4m c) (fun z => by rw [List.mem_singleton.mp z]; exact Lal j hj)⟩) (fun j hj => by
        have e := ix j hj
        generalize L.getD j 0 = c at e ⊢
        have ms := v_addS (h := h4) (a := cut L (some 4) (some (4 + (zn : Int)))) (b := [c]) (lim_big (by simp only [List.length_cons, List.length_nil]; omega))
        simp only [run_eq, List.length_cons, List.length_nil, List.map_cons, List.map_nil, List.cons_append, List.nil_append, List.replicate, List.set_cons_zero, List.set_cons_succ, x_cons, x_nil, seqC_nx, seqC_rt, x_asg, asgK_nm, asgK_sub, retS_some, retH_some, sub1_eq, sub2_eq, x_expr, exK_eq, x_ret, retK_eq, x_retn, x_iff, iffK_t, iffK_f, x_fo, x_pas, x_par, runK_nx, runK_rt, bindE_some, bindL_some, bindO_some, bindI_some, bindB_some, liftB_some, retV_some, asB_bl, bin1_eq, e_bin, cmpK_eq, cmp1_eq, e_cmp, cmpR_t, cmpR_f, cmp2a_eq, e_cmp2, cmpR3_t, cmpR3_f, cmp3a_eq, e_cmp3, e_and, e_or, andK_t, andK_f, orK_t, orK_f, bOut_eq, notK_eq, e_not, negK_int, e_neg, iteK_t, iteK_f, e_ite, tupK2_eq, e_tup, lstK_eq, e_lst, e_dct0, ixK_eq, ix1_eq, e_ix, sl1_eq, sl2_eq, e_sl, e_rev, o_no, o_ex, oK_int, e_call, e_bi, e_me, s_nil, s_cons, consA_eq, consB_eq, e_lit, e_glob, e_var0, e_varS, e_comp, i_range1, i_range2, r2a_eq, i_val, vK_tup, vK_str, t_lit, t_cmp, t_cmp2, t_cmp3, t_call, t_bi, t_var, t_and, t_or, t_not, andT_t, andT_f, orT_t, orT_f, notT_eq, v_add, v_sub, c_lt, c_le, c_gt, c_ge, c_eqI, c_neI, c_eqS, c_neS, c_isN, c_isnotN, c_isB, c_isnotB, x_tup, x_lstV, sl_lstV, sl_tup, b_lenT, b_lenV, decide_true, decide_false, Bool.not_true, Bool.not_false, hz, x_str lL e, sl_str lL, ms])
      refine ⟨h4.length, ks, _, ?_, get_new, by omega, by omega, o.len, o.trans (Off.app _ _ _), q4.keep (Off.app [] _ _) (by simp), hne, hnm⟩
      simp only [b218, n218, run_eq, List.length_cons, List.length_nil, List.map_cons, List.map_nil, List.cons_append, List.nil_append, List.replicate, List.set_cons_zero, List.set_cons_succ, x_cons, x_nil, seqC_nx, seqC_rt, x_asg, asgK_nm, asgK_sub, retS_some, retH_some, sub1_eq, sub2_eq, x_expr, exK_eq, x_ret, retK_eq, x_retn, x_iff, iffK_t, iffK_f, x_fo, x_pas, x_par, runK_nx, runK_rt, bindE_some, bindL_some, bindO_some, bindI_some, bindB_some, liftB_some, retV_some, asB_bl, bin1_eq, e_bin, cmpK_eq, cmp1_eq, e_cmp, cmpR_t, cmpR_f, cmp2a_eq, e_cmp2, cmpR3_t, cmpR3_f, cmp3a_eq, e_cmp3, e_and, e_or, andK_t, andK_f, orK_t, orK_f, bOut_eq, notK_eq, e_not, negK_int, e_neg, iteK_t, iteK_f, e_ite, tupK2_eq, e_tup, lstK_eq, e_lst, e_dct0, ixK_eq, ix1_eq, e_ix, sl1_eq, sl2_eq, e_sl, e_rev, o_no, o_ex, oK_int, e_call, e_bi, e_me, s_nil, s_cons, consA_eq, consB_eq, e_lit, e_glob, e_var0, e_varS, e_comp, i_range1, i_range2, r2a_eq, i_val, vK_tup, vK_str, t_lit, t_cmp, t_cmp2, t_cmp3, t_call, t_bi, t_var, t_and, t_or, t_not, andT_t, andT_f, orT_t, orT_f, notT_eq, v_add, v_sub, c_lt, c_le, c_gt, c_ge, c_eqI, c_neI, c_eqS, c_neS, c_isN, c_isnotN, c_isB, c_isnotB, x_tup, x_lstV, sl_lstV, sl_tup, b_lenT, b_lenV, decide_true, decide_false, Bool.not_true, Bool.not_false, at0, at1, at2, at3, Nat.reduceAdd, Nat.reduceSub, Nat.reduceMul, Int.reduceAdd, Int.reduceSub, Int.reduceMul, Int.reduceNeg, Int.reduceLT, Int.reduceLE, Int.reduceToNat, Int.cast_ofNat_Int, e1, sl_str la, ld, lt', va, e2, e3, e4, r1K_int sm, hn, Int.toNat_natCast, hk0, hk1]
      rw [hn] at ec
      rw [ec]
      rfl
end TH

/-! What is a plot (239, 240), of things of any kind. -/
namespace TH
open PySem
def sRow : List Nat := [114, 111, 119]
def sThen : List Nat := [116, 104, 101, 110]
def sOr : List Nat := [111, 114]
def sAgain : List Nat := [97, 103, 97, 105, 110]
/-- a thing so deep -/
def Thg (h : CH) : Nat → CV → Prop
  | 0, v => Part h v ∧ (∀ xs, v ≠ .tup xs) ∧ ∀ r, v ≠ .ref r
  | n + 1, v => Part h v ∧ (∀ xs, v = .tup xs → xs.length ≤ 1000 ∧ ∀ x ∈ xs, Thg h n x) ∧ ∀ r, v = .ref r → ∃ xs, h[r]? = some (.lst xs) ∧ ∀ x ∈ xs, Thg h n x
theorem Thg.part {h : CH} {n : Nat} {v : CV} (t : Thg h n v) : Part h v := by cases n <;> exact t.1
theorem Thg.off : ∀ {n : Nat} {h h' : CH} {v : CV}, Thg h n v → Off [] h h' → Thg h' n v
  | 0, _, _, _, t, o => ⟨t.1.off o, t.2⟩
  | n + 1, _, _, _, t, o => ⟨t.1.off o, fun xs e => ⟨(t.2.1 xs e).1, fun x hx => ((t.2.1 xs e).2 x hx).off o⟩, fun r e => by
    obtain ⟨xs, g, hx⟩ := t.2.2 r e
    exact ⟨xs, o.get g (by simp), fun x hx' => (hx x hx').off o⟩⟩
theorem Thg.up : ∀ {n : Nat} {h : CH} {v : CV}, Thg h n v → Thg h (n + 1) v
  | 0, _, v, t => ⟨t.1, fun xs e => absurd e (t.2.1 xs), fun r e => absurd e (t.2.2 r)⟩
  | n + 1, _, _, t => ⟨t.1, fun xs e => ⟨(t.2.1 xs e).1, fun x hx => ((t.2.1 xs e).2 x hx).up⟩, fun r e => by
    obtain ⟨xs, g, hx⟩ := t.2.2 r e
    exact ⟨xs, g, fun x hx' => (hx x hx').up⟩⟩
theorem Thg.le {n m : Nat} {h : CH} {v : CV} (t : Thg h n v) (l : n ≤ m) : Thg h m v := by
  induction l with
  | refl => exact t
  | step _ ih => exact ih.up
theorem Thg.td {n : Nat} {h : CH} {v : CV} (t : Thg h n v) : TD h v := by
  refine ⟨t.part, fun xs e _ x hx => ?_⟩
  cases n with
  | zero => exact absurd e (t.2.1 xs)
  | succ n => exact ((t.2.1 xs e).2 x hx).part
theorem Thg.items {n : Nat} {h : CH} {xs : List CV} (t : Thg h n (.tup xs)) : xs.length ≤ 1000 ∧ ∀ x ∈ xs, Thg h n x := by
  cases n with
  | zero => exact absurd rfl (t.2.1 xs)
  | succ n => exact ⟨(t.2.1 xs rfl).1, fun x hx => ((t.2.1 xs rfl).2 x hx).up⟩
def plotV : Nat → CV → Bool
  | 0, _ => false
  | n + 1, .tup (.str w :: rest) =>
    if w = sRow then (match rest with | [x] => rowV x | _ => false)
    else if w = sThen ∨ w = sOr then (match rest with | [.tup ps] => !ps.isEmpty && ps.all (plotV n) | _ => false)
    else if w = sAgain then (match rest with | [p, .int a, .int b] => decide (0 ≤ a ∧ a ≤ b ∧ b ≤ 4) && plotV n p | _ => false)
    else false
  | _, _ => false
theorem plotV_eq (n : Nat) (w : List Nat) (rest : List CV) : plotV (n + 1) (.tup (.str w :: rest)) = (if w = sRow then (match rest with | [x] => rowV x | _ => false)
    else if w = sThen ∨ w = sOr then (match rest with | [.tup ps] => !ps.isEmpty && ps.all (plotV n) | _ => false)
    else if w = sAgain then (match rest with | [p, .int a, .int b] => decide (0 ≤ a ∧ a ≤ b ∧ b ≤ 4) && plotV n p | _ => false)
    else false) := rfl
/-- parts, all of them plots -/
def partsV (n : Nat) : CV → Bool
  | .tup ps => !ps.isEmpty && ps.all (plotV n)
  | _ => false
structure Pl (F : Fns) : Prop where
  whole : ∀ (h : CH) (v : CV), Typ h v → F 0 [v] h = some (.bl (isInt v), h)
  row : ∀ (h : CH) (v : CV), Typ h v → (∀ xs, v = .tup xs → xs.length ≤ 1000 ∧ ∀ x ∈ xs, TD h x) → ∃ h', F 12 [v] h = some (.bl (rowV v), h') ∧ Off [] h h'
abbrev bsP : List (Nat × Nat × CSs) := [(239, n239.length, b239), (240, n240.length, b240)]
theorem p240 (F : Fns) (W d : Nat) : recF F W bsP (d + 1) 240 = runC (recF F W bsP d) W n240.length b240 := rfl
theorem p239 (F : Fns) (W d : Nat) : recF F W bsP (d + 1) 239 = runC (recF F W bsP d) W n239.length b239 := rfl
theorem pne (F : Fns) (W d j : Nat) (h : (bsP.lookup j).isNone = true) : recF F W bsP d j = F j := by
  cases d <;> (unfold recF; cases e : bsP.lookup j with | none => rfl | some p => rw [e] at h; cases h)
theorem all_step {F : Fns} {s : Env} {f i : Nat} {h : CH} {xs : List CV} (p : CV → Bool) (hl : xs.length ≤ 1000) (hi : ∀ x, (s.set i (some x))[i]? = some (some x))
    (st : ∀ x ∈ xs, ∀ h', Off [] h h' → ∃ h2, F f [x] h' = some (.bl (p x), h2) ∧ Off [] h' h2) :
    ∃ h', compK F (.call f (.cons (.var i) .nil)) (.lit (.bl true)) i s (.tup xs) h = some (.ref h'.length, h' ++ [.lst ((xs.map p).map .bl)]) ∧ biV .all [.ref h'.length] (h' ++ [.lst ((xs.map p).map .bl)]) = some (.bl (xs.all p), h' ++ [.lst ((xs.map p).map .bl)]) ∧ Off [] h (h' ++ [.lst ((xs.map p).map .bl)]) := by
  obtain ⟨h', e, o⟩ := comp_offA (F := F) (s := s) (h := h) (elt := .call f (.cons (.var i) .nil)) (i := i) (src := .tup xs) (xs := xs) (fun x => .bl (p x)) (fun h' _ i => src_tup) src_tupL (lim_big (by omega)) (fun x hx h' o => by
    obtain ⟨h2, e2, o2⟩ := st x hx h' o
    refine ⟨h2, ?_, o2⟩
    have ev : evalC F (.var i) (s.set i (some x)) h' = some (x, h') := by simp only [evalC, hi x]
    rw [e_call, s_cons, ev]
    simp only [bindE_some, consA_eq, s_nil, bindL_some, consB_eq, e2])
  have em : xs.map (fun x => CV.bl (p x)) = (xs.map p).map CV.bl := by rw [List.map_map]; rfl
  rw [em] at e
  have ea := b_all (get_new (h := h') (o := CO.lst ((xs.map p).map CV.bl)))
  have hal : (xs.map p).all id = xs.all p := by rw [List.all_map]; rfl
  rw [hal] at ea
  exact ⟨h', e, ea, o.trans (Off.app _ _ _)⟩
/-- 239 -/
theorem run_parts239 (F : Fns) (W d : Nat) {n : Nat} {h : CH} {v : CV} (t : Thg h n v) (ih : ∀ (h : CH) (x : CV), Thg h (n - 1) x → ∃ h', recF F W bsP d 240 [x] h = some (.bl (plotV (n - 1) x), h') ∧ Off [] h h') :
    ∃ h', recF F W bsP (d + 1) 239 [v] h = some (.bl (partsV (n - 1) v), h') ∧ Off [] h h' := by
  rw [p239]
  have ty := t.part.1
  cases e : isTup v with
  | false =>
    have : partsV (n - 1) v = false := by cases v <;> first | rfl | cases e
    rw [this]
    exact ⟨h, by simp only [b239, n239, run_eq, List.length_cons, List.length_nil, List.map_cons, List.map_nil, List.cons_append, List.nil_append, List.replicate, List.set_cons_zero, List.set_cons_succ, x_cons, x_nil, seqC_nx, seqC_rt, x_asg, asgK_nm, asgK_sub, retS_some, retH_some, sub1_eq, sub2_eq, x_expr, exK_eq, x_ret, retK_eq, x_retn, x_iff, iffK_t, iffK_f, x_fo, x_pas, x_par, runK_nx, runK_rt, bindE_some, bindL_some, bindO_some, bindI_some, bindB_some, liftB_some, retV_some, asB_bl, bin1_eq, e_bin, cmpK_eq, cmp1_eq, e_cmp, cmpR_t, cmpR_f, cmp2a_eq, e_cmp2, cmpR3_t, cmpR3_f, cmp3a_eq, e_cmp3, e_and, e_or, andK_t, andK_f, orK_t, orK_f, bOut_eq, notK_eq, e_not, negK_int, e_neg, iteK_t, iteK_f, e_ite, tupK2_eq, e_tup, lstK_eq, e_lst, e_dct0, ixK_eq, ix1_eq, e_ix, sl1_eq, sl2_eq, e_sl, e_rev, o_no, o_ex, oK_int, e_call, e_bi, e_me, s_nil, s_cons, consA_eq, consB_eq, e_lit, e_glob, e_var0, e_varS, e_comp, i_range1, i_range2, r2a_eq, i_val, vK_tup, vK_str, t_lit, t_cmp, t_cmp2, t_cmp3, t_call, t_bi, t_var, t_and, t_or, t_not, andT_t, andT_f, orT_t, orT_f, notT_eq, v_add, v_sub, c_lt, c_le, c_gt, c_ge, c_eqI, c_neI, c_eqS, c_neS, c_isN, c_isnotN, c_isB, c_isnotB, x_tup, x_lstV, sl_lstV, sl_tup, b_lenT, b_lenV, decide_true, decide_false, Bool.not_true, Bool.not_false, b_isi (i_tup ty), e], .refl _ _⟩
  | true =>
    obtain ⟨xs, rfl⟩ : ∃ xs, v = .tup xs := by cases v <;> first | exact ⟨_, rfl⟩ | cases e
    obtain ⟨m, rfl⟩ : ∃ m, n = m + 1 := by
      cases n with
      | zero => exact absurd rfl (t.2.1 xs)
      | succ m => exact ⟨m, rfl⟩
    obtain ⟨hl, hx⟩ := t.2.1 xs rfl
    rw [Nat.add_sub_cancel] at ih
    cases xs with
    | nil =>
      have c0 : cmpV .gt (.int ((([] : List CV).length : Nat) : Int)) (.int 0) h = some false := rfl
      have b0' : biV .len [.tup []] h = some (.int 0, h) := rfl
      have c1 : cmpV .gt (.int 0) (.int 0) h = some false := rfl
      exact ⟨h, by simp only [b239, n239, run_eq, List.length_cons, List.length_nil, List.map_cons, List.map_nil, List.cons_append, List.nil_append, List.replicate, List.set_cons_zero, List.set_cons_succ, x_cons, x_nil, seqC_nx, seqC_rt, x_asg, asgK_nm, asgK_sub, retS_some, retH_some, sub1_eq, sub2_eq, x_expr, exK_eq, x_ret, retK_eq, x_retn, x_iff, iffK_t, iffK_f, x_fo, x_pas, x_par, runK_nx, runK_rt, bindE_some, bindL_some, bindO_some, bindI_some, bindB_some, liftB_some, retV_some, asB_bl, bin1_eq, e_bin, cmpK_eq, cmp1_eq, e_cmp, cmpR_t, cmpR_f, cmp2a_eq, e_cmp2, cmpR3_t, cmpR3_f, cmp3a_eq, e_cmp3, e_and, e_or, andK_t, andK_f, orK_t, orK_f, bOut_eq, notK_eq, e_not, negK_int, e_neg, iteK_t, iteK_f, e_ite, tupK2_eq, e_tup, lstK_eq, e_lst, e_dct0, ixK_eq, ix1_eq, e_ix, sl1_eq, sl2_eq, e_sl, e_rev, o_no, o_ex, oK_int, e_call, e_bi, e_me, s_nil, s_cons, consA_eq, consB_eq, e_lit, e_glob, e_var0, e_varS, e_comp, i_range1, i_range2, r2a_eq, i_val, vK_tup, vK_str, t_lit, t_cmp, t_cmp2, t_cmp3, t_call, t_bi, t_var, t_and, t_or, t_not, andT_t, andT_f, orT_t, orT_f, notT_eq, v_add, v_sub, c_lt, c_le, c_gt, c_ge, c_eqI, c_neI, c_eqS, c_neS, c_isN, c_isnotN, c_isB, c_isnotB, x_tup, x_lstV, sl_lstV, sl_tup, b_lenT, b_lenV, decide_true, decide_false, Bool.not_true, Bool.not_false, b_isi (i_tup ty), isTup, b0', c1]; rfl, .refl _ _⟩
    | cons y ys =>
      obtain ⟨h', ec, ea, o⟩ := all_step (F := recF F W bsP d) (s := [some (.tup (y :: ys)), none]) (f := 240) (i := 1) (h := h) (xs := y :: ys) (plotV m) hl (fun x => rfl) (fun x hx' h' o => ih h' x ((hx x hx').off o))
      have c1 : cmpV .gt (.int (((y :: ys).length : Nat) : Int)) (.int 0) h = some true := by rw [c_gt]; exact congrArg some (decide_eq_true (by simp))
      have bl : biV .len [.tup (y :: ys)] h = some (.int (((y :: ys).length : Nat) : Int), h) := b_lenT
      generalize (((y :: ys).length : Nat) : Int) = L at c1 bl
      generalize hz : y :: ys = zs at *
      have hp : partsV m (.tup zs) = zs.all (plotV m) := by subst hz; rfl
      refine ⟨h' ++ [.lst ((zs.map (plotV m)).map .bl)], ?_, o⟩
      rw [Nat.add_sub_cancel, hp]
      simp only [b239, n239, run_eq, List.length_cons, List.length_nil, List.map_cons, List.map_nil, List.cons_append, List.nil_append, List.replicate, List.set_cons_zero, List.set_cons_succ, x_cons, x_nil, seqC_nx, seqC_rt, x_asg, asgK_nm, asgK_sub, retS_some, retH_some, sub1_eq, sub2_eq, x_expr, exK_eq, x_ret, retK_eq, x_retn, x_iff, iffK_t, iffK_f, x_fo, x_pas, x_par, runK_nx, runK_rt, bindE_some, bindL_some, bindO_some, bindI_some, bindB_some, liftB_some, retV_some, asB_bl, bin1_eq, e_bin, cmpK_eq, cmp1_eq, e_cmp, cmpR_t, cmpR_f, cmp2a_eq, e_cmp2, cmpR3_t, cmpR3_f, cmp3a_eq, e_cmp3, e_and, e_or, andK_t, andK_f, orK_t, orK_f, bOut_eq, notK_eq, e_not, negK_int, e_neg, iteK_t, iteK_f, e_ite, tupK2_eq, e_tup, lstK_eq, e_lst, e_dct0, ixK_eq, ix1_eq, e_ix, sl1_eq, sl2_eq, e_sl, e_rev, o_no, o_ex, oK_int, e_call, e_bi, e_me, s_nil, s_cons, consA_eq, consB_eq, e_lit, e_glob, e_var0, e_varS, e_comp, i_range1, i_range2, r2a_eq, i_val, vK_tup, vK_str, t_lit, t_cmp, t_cmp2, t_cmp3, t_call, t_bi, t_var, t_and, t_or, t_not, andT_t, andT_f, orT_t, orT_f, notT_eq, v_add, v_sub, c_lt, c_le, c_gt, c_ge, c_eqI, c_neI, c_eqS, c_neS, c_isN, c_isnotN, c_isB, c_isnotB, x_tup, x_lstV, sl_lstV, sl_tup, b_lenT, b_lenV, decide_true, decide_false, Bool.not_true, Bool.not_false, b_isi (i_tup ty), isTup, bl, c1, ec, ea]
theorem eqS (h : CH) (a b : List Nat) : cmpV .eq (.str a) (.str b) h = some (decide (a = b)) := by
  rw [c_eq (eqV_str h a b)]
  by_cases z : a = b <;> simp [z]
theorem neS (h : CH) (a b : List Nat) : cmpV .ne (.str a) (.str b) h = some (!decide (a = b)) := by
  rw [c_ne (eqV_str h a b)]
  by_cases z : a = b <;> simp [z]
theorem eqL (h : CH) (n : Nat) (k : Int) : cmpV .eq (.int (n : Int)) (.int k) h = some (decide ((n : Int) = k)) := c_eqI
/-- 240 -/
theorem run_plot240 (F : Fns) (W : Nat) (P : Pl F) : ∀ (n d : Nat) (h : CH) (v : CV), Thg h n v → 2 * n + 2 ≤ d → ∃ h', recF F W bsP d 240 [v] h = some (.bl (plotV n v), h') ∧ Off [] h h' := by
  intro n
  induction n with
  | zero =>
    intro d h v t hd
    obtain ⟨d, rfl⟩ : ∃ e, d = e + 1 := ⟨d - 1, by omega⟩
    rw [p240]
    have ty := t.part.1
    have e : isTup v = false := by cases v <;> first | rfl | exact absurd rfl (t.2.1 _)
    exact ⟨h, by simp only [b240, n240, run_eq, List.length_cons, List.length_nil, List.map_cons, List.map_nil, List.cons_append, List.nil_append, List.replicate, List.set_cons_zero, List.set_cons_succ, x_cons, x_nil, seqC_nx, seqC_rt, x_asg, asgK_nm, asgK_sub, retS_some, retH_some, sub1_eq, sub2_eq, x_expr, exK_eq, x_ret, retK_eq, x_retn, x_iff, iffK_t, iffK_f, x_fo, x_pas, x_par, runK_nx, runK_rt, bindE_some, bindL_some, bindO_some, bindI_some, bindB_some, liftB_some, retV_some, asB_bl, bin1_eq, e_bin, cmpK_eq, cmp1_eq, e_cmp, cmpR_t, cmpR_f, cmp2a_eq, e_cmp2, cmpR3_t, cmpR3_f, cmp3a_eq, e_cmp3, e_and, e_or, andK_t, andK_f, orK_t, orK_f, bOut_eq, notK_eq, e_not, negK_int, e_neg, iteK_t, iteK_f, e_ite, tupK2_eq, e_tup, lstK_eq, e_lst, e_dct0, ixK_eq, ix1_eq, e_ix, sl1_eq, sl2_eq, e_sl, e_rev, o_no, o_ex, oK_int, e_call, e_bi, e_me, s_nil, s_cons, consA_eq, consB_eq, e_lit, e_glob, e_var0, e_varS, e_comp, i_range1, i_range2, r2a_eq, i_val, vK_tup, vK_str, t_lit, t_cmp, t_cmp2, t_cmp3, t_call, t_bi, t_var, t_and, t_or, t_not, andT_t, andT_f, orT_t, orT_f, notT_eq, v_add, v_sub, c_lt, c_le, c_gt, c_ge, c_eqI, c_neI, c_eqS, c_neS, c_isN, c_isnotN, c_isB, c_isnotB, x_tup, x_lstV, sl_lstV, sl_tup, b_lenT, b_lenV, decide_true, decide_false, Bool.not_true, Bool.not_false, b_isi (i_tup ty), e, plotV], .refl _ _⟩
  | succ n ih =>
    intro d h v t hd
    obtain ⟨d, rfl⟩ : ∃ e, d = e + 1 := ⟨d - 1, by omega⟩
    rw [p240]
    have ty := t.part.1
    have g0 : recF F W bsP d 0 = F 0 := pne F W d 0 rfl
    have g12 : recF F W bsP d 12 = F 12 := pne F W d 12 rfl
    cases e : isTup v with
    | false =>
      have : plotV (n + 1) v = false := by cases v <;> first | rfl | cases e
      rw [this]
      exact ⟨h, by simp only [b240, n240, run_eq, List.length_cons, List.length_nil, List.map_cons, List.map_nil, List.cons_append, List.nil_append, List.replicate, List.set_cons_zero, List.set_cons_succ, x_cons, x_nil, seqC_nx, seqC_rt, x_asg, asgK_nm, asgK_sub, retS_some, retH_some, sub1_eq, sub2_eq, x_expr, exK_eq, x_ret, retK_eq, x_retn, x_iff, iffK_t, iffK_f, x_fo, x_pas, x_par, runK_nx, runK_rt, bindE_some, bindL_some, bindO_some, bindI_some, bindB_some, liftB_some, retV_some, asB_bl, bin1_eq, e_bin, cmpK_eq, cmp1_eq, e_cmp, cmpR_t, cmpR_f, cmp2a_eq, e_cmp2, cmpR3_t, cmpR3_f, cmp3a_eq, e_cmp3, e_and, e_or, andK_t, andK_f, orK_t, orK_f, bOut_eq, notK_eq, e_not, negK_int, e_neg, iteK_t, iteK_f, e_ite, tupK2_eq, e_tup, lstK_eq, e_lst, e_dct0, ixK_eq, ix1_eq, e_ix, sl1_eq, sl2_eq, e_sl, e_rev, o_no, o_ex, oK_int, e_call, e_bi, e_me, s_nil, s_cons, consA_eq, consB_eq, e_lit, e_glob, e_var0, e_varS, e_comp, i_range1, i_range2, r2a_eq, i_val, vK_tup, vK_str, t_lit, t_cmp, t_cmp2, t_cmp3, t_call, t_bi, t_var, t_and, t_or, t_not, andT_t, andT_f, orT_t, orT_f, notT_eq, v_add, v_sub, c_lt, c_le, c_gt, c_ge, c_eqI, c_neI, c_eqS, c_neS, c_isN, c_isnotN, c_isB, c_isnotB, x_tup, x_lstV, sl_lstV, sl_tup, b_lenT, b_lenV, decide_true, decide_false, Bool.not_true, Bool.not_false, b_isi (i_tup ty), e], .refl _ _⟩
    | true =>
      obtain ⟨xs, rfl⟩ : ∃ xs, v = .tup xs := by cases v <;> first | exact ⟨_, rfl⟩ | cases e
      obtain ⟨hl, hx⟩ := t.2.1 xs rfl
      match xs, hl, hx with
      | [], _, _ =>
        have c1 : ∀ h, biV .len [.tup []] h = some (.int 0, h) := fun h => rfl
        have c2 : ∀ h, cmpV .lt (.int 0) (.int 2) h = some true := fun h => rfl
        exact ⟨h, by simp only [b240, n240, run_eq, List.length_cons, List.length_nil, List.map_cons, List.map_nil, List.cons_append, List.nil_append, List.replicate, List.set_cons_zero, List.set_cons_succ, x_cons, x_nil, seqC_nx, seqC_rt, x_asg, asgK_nm, asgK_sub, retS_some, retH_some, sub1_eq, sub2_eq, x_expr, exK_eq, x_ret, retK_eq, x_retn, x_iff, iffK_t, iffK_f, x_fo, x_pas, x_par, runK_nx, runK_rt, bindE_some, bindL_some, bindO_some, bindI_some, bindB_some, liftB_some, retV_some, asB_bl, bin1_eq, e_bin, cmpK_eq, cmp1_eq, e_cmp, cmpR_t, cmpR_f, cmp2a_eq, e_cmp2, cmpR3_t, cmpR3_f, cmp3a_eq, e_cmp3, e_and, e_or, andK_t, andK_f, orK_t, orK_f, bOut_eq, notK_eq, e_not, negK_int, e_neg, iteK_t, iteK_f, e_ite, tupK2_eq, e_tup, lstK_eq, e_lst, e_dct0, ixK_eq, ix1_eq, e_ix, sl1_eq, sl2_eq, e_sl, e_rev, o_no, o_ex, oK_int, e_call, e_bi, e_me, s_nil, s_cons, consA_eq, consB_eq, e_lit, e_glob, e_var0, e_varS, e_comp, i_range1, i_range2, r2a_eq, i_val, vK_tup, vK_str, t_lit, t_cmp, t_cmp2, t_cmp3, t_call, t_bi, t_var, t_and, t_or, t_not, andT_t, andT_f, orT_t, orT_f, notT_eq, v_add, v_sub, c_lt, c_le, c_gt, c_ge, c_eqI, c_neI, c_eqS, c_neS, c_isN, c_isnotN, c_isB, c_isnotB, x_tup, x_lstV, sl_lstV, sl_tup, b_lenT, b_lenV, decide_true, decide_false, Bool.not_true, Bool.not_false, b_isi (i_tup ty), isTup, c1, c2, plotV], .refl _ _⟩
      | [a], _, _ =>
        have c1 : ∀ h, biV .len [.tup [a]] h = some (.int 1, h) := fun h => rfl
        have c2 : ∀ h, cmpV .lt (.int 1) (.int 2) h = some true := fun h => rfl
        have : plotV (n + 1) (.tup [a]) = false := by
          cases a with
          | str w =>
            rw [plotV_eq]
            show (if w = sRow then false else if w = sThen ∨ w = sOr then false else if w = sAgain then false else false) = false
            split <;> (try split) <;> (try split) <;> rfl
          | _ => rfl
        rw [this]
        exact ⟨h, by simp only [b240, n240, run_eq, List.length_cons, List.length_nil, List.map_cons, List.map_nil, List.cons_append, List.nil_append, List.replicate, List.set_cons_zero, List.set_cons_succ, x_cons, x_nil, seqC_nx, seqC_rt, x_asg, asgK_nm, asgK_sub, retS_some, retH_some, sub1_eq, sub2_eq, x_expr, exK_eq, x_ret, retK_eq, x_retn, x_iff, iffK_t, iffK_f, x_fo, x_pas, x_par, runK_nx, runK_rt, bindE_some, bindL_some, bindO_some, bindI_some, bindB_some, liftB_some, retV_some, asB_bl, bin1_eq, e_bin, cmpK_eq, cmp1_eq, e_cmp, cmpR_t, cmpR_f, cmp2a_eq, e_cmp2, cmpR3_t, cmpR3_f, cmp3a_eq, e_cmp3, e_and, e_or, andK_t, andK_f, orK_t, orK_f, bOut_eq, notK_eq, e_not, negK_int, e_neg, iteK_t, iteK_f, e_ite, tupK2_eq, e_tup, lstK_eq, e_lst, e_dct0, ixK_eq, ix1_eq, e_ix, sl1_eq, sl2_eq, e_sl, e_rev, o_no, o_ex, oK_int, e_call, e_bi, e_me, s_nil, s_cons, consA_eq, consB_eq, e_lit, e_glob, e_var0, e_varS, e_comp, i_range1, i_range2, r2a_eq, i_val, vK_tup, vK_str, t_lit, t_cmp, t_cmp2, t_cmp3, t_call, t_bi, t_var, t_and, t_or, t_not, andT_t, andT_f, orT_t, orT_f, notT_eq, v_add, v_sub, c_lt, c_le, c_gt, c_ge, c_eqI, c_neI, c_eqS, c_neS, c_isN, c_isnotN, c_isB, c_isnotB, x_tup, x_lstV, sl_lstV, sl_tup, b_lenT, b_lenV, decide_true, decide_false, Bool.not_true, Bool.not_false, b_isi (i_tup ty), isTup, c1, c2], .refl _ _⟩
      | a :: b :: rest, hl, hx =>
        have bl : ∀ h, biV .len [.tup (a :: b :: rest)] h = some (.int (((a :: b :: rest).length : Nat) : Int), h) := fun h => b_lenT
        have c2 : ∀ h, cmpV .lt (.int (((a :: b :: rest).length : Nat) : Int)) (.int 2) h = some false := fun h => by rw [c_lt]; exact congrArg some (decide_eq_false (by simp; omega))
        have x0 : ∀ h, ixV (.tup (a :: b :: rest)) (.int 0) h = some a := fun h => by rw [x_tup]; exact at0
        have x1 : ∀ h, ixV (.tup (a :: b :: rest)) (.int 1) h = some b := fun h => by rw [x_tup]; exact at1
        have ta := hx a (by simp)
        have tb := hx b (by simp)
        have is := b_isi (i_str ta.part.1)
        cases ea : isStr a with
        | false =>
          have : plotV (n + 1) (.tup (a :: b :: rest)) = false := by cases a <;> first | rfl | cases ea
          rw [this]
          rw [ea] at is
          generalize hL : (((a :: b :: rest).length : Nat) : Int) = L at bl c2
          generalize hZ : a :: b :: rest = Z at *
          exact ⟨h, by simp only [b240, n240, run_eq, List.length_cons, List.length_nil, List.map_cons, List.map_nil, List.cons_append, List.nil_append, List.replicate, List.set_cons_zero, List.set_cons_succ, x_cons, x_nil, seqC_nx, seqC_rt, x_asg, asgK_nm, asgK_sub, retS_some, retH_some, sub1_eq, sub2_eq, x_expr, exK_eq, x_ret, retK_eq, x_retn, x_iff, iffK_t, iffK_f, x_fo, x_pas, x_par, runK_nx, runK_rt, bindE_some, bindL_some, bindO_some, bindI_some, bindB_some, liftB_some, retV_some, asB_bl, bin1_eq, e_bin, cmpK_eq, cmp1_eq, e_cmp, cmpR_t, cmpR_f, cmp2a_eq, e_cmp2, cmpR3_t, cmpR3_f, cmp3a_eq, e_cmp3, e_and, e_or, andK_t, andK_f, orK_t, orK_f, bOut_eq, notK_eq, e_not, negK_int, e_neg, iteK_t, iteK_f, e_ite, tupK2_eq, e_tup, lstK_eq, e_lst, e_dct0, ixK_eq, ix1_eq, e_ix, sl1_eq, sl2_eq, e_sl, e_rev, o_no, o_ex, oK_int, e_call, e_bi, e_me, s_nil, s_cons, consA_eq, consB_eq, e_lit, e_glob, e_var0, e_varS, e_comp, i_range1, i_range2, r2a_eq, i_val, vK_tup, vK_str, t_lit, t_cmp, t_cmp2, t_cmp3, t_call, t_bi, t_var, t_and, t_or, t_not, andT_t, andT_f, orT_t, orT_f, notT_eq, v_add, v_sub, c_lt, c_le, c_gt, c_ge, c_eqI, c_neI, c_eqS, c_neS, c_isN, c_isnotN, c_isB, c_isnotB, x_tup, x_lstV, sl_lstV, sl_tup, b_lenT, b_lenV, decide_true, decide_false, Bool.not_true, Bool.not_false, b_isi (i_tup ty), isTup, bl, c2, x0, is], .refl _ _⟩
        | true =>
          obtain ⟨w, rfl⟩ : ∃ w, a = .str w := by cases a <;> first | exact ⟨_, rfl⟩ | cases ea
          rw [ea] at is
          have len2 : ∀ h, cmpV .eq (.int (((CV.str w :: b :: rest).length : Nat) : Int)) (.int 2) h = some (decide (rest = [])) := fun h => by
            rw [eqL]
            refine congrArg some (decide_eq_decide.mpr ⟨fun z => List.eq_nil_of_length_eq_zero (by simp at z; omega), fun z => by rw [z]; rfl⟩)
          by_cases w1 : w = sRow
          · subst w1
            have eq1 : ∀ h, cmpV .eq (.str sRow) (.str [114, 111, 119]) h = some true := fun h => by rw [eqS]; rfl
            have pv : plotV (n + 1) (.tup (.str sRow :: b :: rest)) = (decide (rest = []) && rowV b) := by
              rw [plotV_eq, if_pos rfl]
              cases rest <;> simp
            rw [pv]
            generalize hL : (((CV.str sRow :: b :: rest).length : Nat) : Int) = L at bl c2 len2
            cases rest with
            | nil =>
              rw [decide_eq_true rfl] at len2 ⊢
              obtain ⟨h', er, o⟩ := P.row h b tb.part.1 (fun ys ey => by
                subst ey
                obtain ⟨l, m⟩ := tb.items
                exact ⟨l, fun x hx => (m x hx).td⟩)
              have er : recF F W bsP d 12 [b] h = some (.bl (rowV b), h') := by rw [g12]; exact er
              generalize hZ : [CV.str sRow, b] = Z at *
              exact ⟨h', by simp only [b240, n240, run_eq, List.length_cons, List.length_nil, List.map_cons, List.map_nil, List.cons_append, List.nil_append, List.replicate, List.set_cons_zero, List.set_cons_succ, x_cons, x_nil, seqC_nx, seqC_rt, x_asg, asgK_nm, asgK_sub, retS_some, retH_some, sub1_eq, sub2_eq, x_expr, exK_eq, x_ret, retK_eq, x_retn, x_iff, iffK_t, iffK_f, x_fo, x_pas, x_par, runK_nx, runK_rt, bindE_some, bindL_some, bindO_some, bindI_some, bindB_some, liftB_some, retV_some, asB_bl, bin1_eq, e_bin, cmpK_eq, cmp1_eq, e_cmp, cmpR_t, cmpR_f, cmp2a_eq, e_cmp2, cmpR3_t, cmpR3_f, cmp3a_eq, e_cmp3, e_and, e_or, andK_t, andK_f, orK_t, orK_f, bOut_eq, notK_eq, e_not, negK_int, e_neg, iteK_t, iteK_f, e_ite, tupK2_eq, e_tup, lstK_eq, e_lst, e_dct0, ixK_eq, ix1_eq, e_ix, sl1_eq, sl2_eq, e_sl, e_rev, o_no, o_ex, oK_int, e_call, e_bi, e_me, s_nil, s_cons, consA_eq, consB_eq, e_lit, e_glob, e_var0, e_varS, e_comp, i_range1, i_range2, r2a_eq, i_val, vK_tup, vK_str, t_lit, t_cmp, t_cmp2, t_cmp3, t_call, t_bi, t_var, t_and, t_or, t_not, andT_t, andT_f, orT_t, orT_f, notT_eq, v_add, v_sub, c_lt, c_le, c_gt, c_ge, c_eqI, c_neI, c_eqS, c_neS, c_isN, c_isnotN, c_isB, c_isnotB, x_tup, x_lstV, sl_lstV, sl_tup, b_lenT, b_lenV, decide_true, decide_false, Bool.not_true, Bool.not_false, b_isi (i_tup ty), isTup, bl, c2, x0, is, eq1, len2, x1, er, Bool.true_and], o⟩
            | cons c rest =>
              rw [decide_eq_false (by simp)] at len2 ⊢
              generalize hZ : CV.str sRow :: b :: c :: rest = Z at *
              exact ⟨h, by simp only [b240, n240, run_eq, List.length_cons, List.length_nil, List.map_cons, List.map_nil, List.cons_append, List.nil_append, List.replicate, List.set_cons_zero, List.set_cons_succ, x_cons, x_nil, seqC_nx, seqC_rt, x_asg, asgK_nm, asgK_sub, retS_some, retH_some, sub1_eq, sub2_eq, x_expr, exK_eq, x_ret, retK_eq, x_retn, x_iff, iffK_t, iffK_f, x_fo, x_pas, x_par, runK_nx, runK_rt, bindE_some, bindL_some, bindO_some, bindI_some, bindB_some, liftB_some, retV_some, asB_bl, bin1_eq, e_bin, cmpK_eq, cmp1_eq, e_cmp, cmpR_t, cmpR_f, cmp2a_eq, e_cmp2, cmpR3_t, cmpR3_f, cmp3a_eq, e_cmp3, e_and, e_or, andK_t, andK_f, orK_t, orK_f, bOut_eq, notK_eq, e_not, negK_int, e_neg, iteK_t, iteK_f, e_ite, tupK2_eq, e_tup, lstK_eq, e_lst, e_dct0, ixK_eq, ix1_eq, e_ix, sl1_eq, sl2_eq, e_sl, e_rev, o_no, o_ex, oK_int, e_call, e_bi, e_me, s_nil, s_cons, consA_eq, consB_eq, e_lit, e_glob, e_var0, e_varS, e_comp, i_range1, i_range2, r2a_eq, i_val, vK_tup, vK_str, t_lit, t_cmp, t_cmp2, t_cmp3, t_call, t_bi, t_var, t_and, t_or, t_not, andT_t, andT_f, orT_t, orT_f, notT_eq, v_add, v_sub, c_lt, c_le, c_gt, c_ge, c_eqI, c_neI, c_eqS, c_neS, c_isN, c_isnotN, c_isB, c_isnotB, x_tup, x_lstV, sl_lstV, sl_tup, b_lenT, b_lenV, decide_true, decide_false, Bool.not_true, Bool.not_false, b_isi (i_tup ty), isTup, bl, c2, x0, is, eq1, len2, Bool.false_and], .refl _ _⟩
          · have eq1 : ∀ h, cmpV .eq (.str w) (.str [114, 111, 119]) h = some false := fun h => by rw [eqS]; exact congrArg some (decide_eq_false w1)
            by_cases w2 : w = sThen ∨ w = sOr
            · have pv : plotV (n + 1) (.tup (.str w :: b :: rest)) = (decide (rest = []) && partsV n b) := by
                rw [plotV_eq, if_neg w1, if_pos w2]
                cases rest with
                | nil => cases b <;> first | rfl | (unfold partsV; simp)
                | cons c rest => simp
              rw [pv]
              have tst : ∀ h, cmpV .eq (.str w) (.str [116, 104, 101, 110]) h = some (decide (w = sThen)) := fun h => eqS h w sThen
              have tst2 : ∀ h, cmpV .eq (.str w) (.str [111, 114]) h = some (decide (w = sOr)) := fun h => eqS h w sOr
              generalize hL : (((CV.str w :: b :: rest).length : Nat) : Int) = L at bl c2 len2
              obtain ⟨d, rfl⟩ : ∃ e, d = e + 1 := ⟨d - 1, by omega⟩
              cases rest with
              | nil =>
                rw [decide_eq_true rfl] at len2 ⊢
                obtain ⟨h', er, o⟩ := run_parts239 F W d (n := n + 1) tb.up (fun h x tx => ih d h x tx (by omega))
                rw [Nat.add_sub_cancel] at er
                refine ⟨h', ?_, o⟩
                generalize hZ : [CV.str w, b] = Z at *
                by_cases w3 : w = sThen
                · rw [decide_eq_true w3] at tst
                  simp only [b240, n240, run_eq, List.length_cons, List.length_nil, List.map_cons, List.map_nil, List.cons_append, List.nil_append, List.replicate, List.set_cons_zero, List.set_cons_succ, x_cons, x_nil, seqC_nx, seqC_rt, x_asg, asgK_nm, asgK_sub, retS_some, retH_some, sub1_eq, sub2_eq, x_expr, exK_eq, x_ret, retK_eq, x_retn, x_iff, iffK_t, iffK_f, x_fo, x_pas, x_par, runK_nx, runK_rt, bindE_some, bindL_some, bindO_some, bindI_some, bindB_some, liftB_some, retV_some, asB_bl, bin1_eq, e_bin, cmpK_eq, cmp1_eq, e_cmp, cmpR_t, cmpR_f, cmp2a_eq, e_cmp2, cmpR3_t, cmpR3_f, cmp3a_eq, e_cmp3, e_and, e_or, andK_t, andK_f, orK_t, orK_f, bOut_eq, notK_eq, e_not, negK_int, e_neg, iteK_t, iteK_f, e_ite, tupK2_eq, e_tup, lstK_eq, e_lst, e_dct0, ixK_eq, ix1_eq, e_ix, sl1_eq, sl2_eq, e_sl, e_rev, o_no, o_ex, oK_int, e_call, e_bi, e_me, s_nil, s_cons, consA_eq, consB_eq, e_lit, e_glob, e_var0, e_varS, e_comp, i_range1, i_range2, r2a_eq, i_val, vK_tup, vK_str, t_lit, t_cmp, t_cmp2, t_cmp3, t_call, t_bi, t_var, t_and, t_or, t_not, andT_t, andT_f, orT_t, orT_f, notT_eq, v_add, v_sub, c_lt, c_le, c_gt, c_ge, c_eqI, c_neI, c_eqS, c_neS, c_isN, c_isnotN, c_isB, c_isnotB, x_tup, x_lstV, sl_lstV, sl_tup, b_lenT, b_lenV, decide_true, decide_false, Bool.not_true, Bool.not_false, b_isi (i_tup ty), isTup, bl, c2, x0, is, eq1, tst, len2, x1, er, Bool.true_and]
                · rw [decide_eq_false w3] at tst
                  rw [decide_eq_true (w2.resolve_left w3)] at tst2
                  simp only [b240, n240, run_eq, List.length_cons, List.length_nil, List.map_cons, List.map_nil, List.cons_append, List.nil_append, List.replicate, List.set_cons_zero, List.set_cons_succ, x_cons, x_nil, seqC_nx, seqC_rt, x_asg, asgK_nm, asgK_sub, retS_some, retH_some, sub1_eq, sub2_eq, x_expr, exK_eq, x_ret, retK_eq, x_retn, x_iff, iffK_t, iffK_f, x_fo, x_pas, x_par, runK_nx, runK_rt, bindE_some, bindL_some, bindO_some, bindI_some, bindB_some, liftB_some, retV_some, asB_bl, bin1_eq, e_bin, cmpK_eq, cmp1_eq, e_cmp, cmpR_t, cmpR_f, cmp2a_eq, e_cmp2, cmpR3_t, cmpR3_f, cmp3a_eq, e_cmp3, e_and, e_or, andK_t, andK_f, orK_t, orK_f, bOut_eq, notK_eq, e_not, negK_int, e_neg, iteK_t, iteK_f, e_ite, tupK2_eq, e_tup, lstK_eq, e_lst, e_dct0, ixK_eq, ix1_eq, e_ix, sl1_eq, sl2_eq, e_sl, e_rev, o_no, o_ex, oK_int, e_call, e_bi, e_me, s_nil, s_cons, consA_eq, consB_eq, e_lit, e_glob, e_var0, e_varS, e_comp, i_range1, i_range2, r2a_eq, i_val, vK_tup, vK_str, t_lit, t_cmp, t_cmp2, t_cmp3, t_call, t_bi, t_var, t_and, t_or, t_not, andT_t, andT_f, orT_t, orT_f, notT_eq, v_add, v_sub, c_lt, c_le, c_gt, c_ge, c_eqI, c_neI, c_eqS, c_neS, c_isN, c_isnotN, c_isB, c_isnotB, x_tup, x_lstV, sl_lstV, sl_tup, b_lenT, b_lenV, decide_true, decide_false, Bool.not_true, Bool.not_false, b_isi (i_tup ty), isTup, bl, c2, x0, is, eq1, tst, tst2, len2, x1, er, Bool.true_and]
              | cons c rest =>
                rw [decide_eq_false (by simp)] at len2 ⊢
                refine ⟨h, ?_, .refl _ _⟩
                generalize hZ : CV.str w :: b :: c :: rest = Z at *
                by_cases w3 : w = sThen
                · rw [decide_eq_true w3] at tst
                  simp only [b240, n240, run_eq, List.length_cons, List.length_nil, List.map_cons, List.map_nil, List.cons_append, List.nil_append, List.replicate, List.set_cons_zero, List.set_cons_succ, x_cons, x_nil, seqC_nx, seqC_rt, x_asg, asgK_nm, asgK_sub, retS_some, retH_some, sub1_eq, sub2_eq, x_expr, exK_eq, x_ret, retK_eq, x_retn, x_iff, iffK_t, iffK_f, x_fo, x_pas, x_par, runK_nx, runK_rt, bindE_some, bindL_some, bindO_some, bindI_some, bindB_some, liftB_some, retV_some, asB_bl, bin1_eq, e_bin, cmpK_eq, cmp1_eq, e_cmp, cmpR_t, cmpR_f, cmp2a_eq, e_cmp2, cmpR3_t, cmpR3_f, cmp3a_eq, e_cmp3, e_and, e_or, andK_t, andK_f, orK_t, orK_f, bOut_eq, notK_eq, e_not, negK_int, e_neg, iteK_t, iteK_f, e_ite, tupK2_eq, e_tup, lstK_eq, e_lst, e_dct0, ixK_eq, ix1_eq, e_ix, sl1_eq, sl2_eq, e_sl, e_rev, o_no, o_ex, oK_int, e_call, e_bi, e_me, s_nil, s_cons, consA_eq, consB_eq, e_lit, e_glob, e_var0, e_varS, e_comp, i_range1, i_range2, r2a_eq, i_val, vK_tup, vK_str, t_lit, t_cmp, t_cmp2, t_cmp3, t_call, t_bi, t_var, t_and, t_or, t_not, andT_t, andT_f, orT_t, orT_f, notT_eq, v_add, v_sub, c_lt, c_le, c_gt, c_ge, c_eqI, c_neI, c_eqS, c_neS, c_isN, c_isnotN, c_isB, c_isnotB, x_tup, x_lstV, sl_lstV, sl_tup, b_lenT, b_lenV, decide_true, decide_false, Bool.not_true, Bool.not_false, b_isi (i_tup ty), isTup, bl, c2, x0, is, eq1, tst, len2, Bool.false_and]
                · rw [decide_eq_false w3] at tst
                  rw [decide_eq_true (w2.resolve_left w3)] at tst2
                  simp only [b240, n240, run_eq, List.length_cons, List.length_nil, List.map_cons, List.map_nil, List.cons_append, List.nil_append, List.replicate, List.set_cons_zero, List.set_cons_succ, x_cons, x_nil, seqC_nx, seqC_rt, x_asg, asgK_nm, asgK_sub, retS_some, retH_some, sub1_eq, sub2_eq, x_expr, exK_eq, x_ret, retK_eq, x_retn, x_iff, iffK_t, iffK_f, x_fo, x_pas, x_par, runK_nx, runK_rt, bindE_some, bindL_some, bindO_some, bindI_some, bindB_some, liftB_some, retV_some, asB_bl, bin1_eq, e_bin, cmpK_eq, cmp1_eq, e_cmp, cmpR_t, cmpR_f, cmp2a_eq, e_cmp2, cmpR3_t, cmpR3_f, cmp3a_eq, e_cmp3, e_and, e_or, andK_t, andK_f, orK_t, orK_f, bOut_eq, notK_eq, e_not, negK_int, e_neg, iteK_t, iteK_f, e_ite, tupK2_eq, e_tup, lstK_eq, e_lst, e_dct0, ixK_eq, ix1_eq, e_ix, sl1_eq, sl2_eq, e_sl, e_rev, o_no, o_ex, oK_int, e_call, e_bi, e_me, s_nil, s_cons, consA_eq, consB_eq, e_lit, e_glob, e_var0, e_varS, e_comp, i_range1, i_range2, r2a_eq, i_val, vK_tup, vK_str, t_lit, t_cmp, t_cmp2, t_cmp3, t_call, t_bi, t_var, t_and, t_or, t_not, andT_t, andT_f, orT_t, orT_f, notT_eq, v_add, v_sub, c_lt, c_le, c_gt, c_ge, c_eqI, c_neI, c_eqS, c_neS, c_isN, c_isnotN, c_isB, c_isnotB, x_tup, x_lstV, sl_lstV, sl_tup, b_lenT, b_lenV, decide_true, decide_false, Bool.not_true, Bool.not_false, b_isi (i_tup ty), isTup, bl, c2, x0, is, eq1, tst, tst2, len2, Bool.false_and]
            · have n3 : w ≠ sThen := fun z => w2 (.inl z)
              have n4 : w ≠ sOr := fun z => w2 (.inr z)
              have tst : ∀ h, cmpV .eq (.str w) (.str [116, 104, 101, 110]) h = some false := fun h => by rw [eqS]; exact congrArg some (decide_eq_false n3)
              have tst2 : ∀ h, cmpV .eq (.str w) (.str [111, 114]) h = some false := fun h => by rw [eqS]; exact congrArg some (decide_eq_false n4)
              have tst3 : ∀ h, cmpV .ne (.str w) (.str [97, 103, 97, 105, 110]) h = some (!decide (w = sAgain)) := fun h => neS h w sAgain
              have ne4 : ∀ h, cmpV .ne (.int (((CV.str w :: b :: rest).length : Nat) : Int)) (.int 4) h = some (!decide (rest.length = 2)) := fun h => by
                rw [c_neI]
                refine congrArg some (congrArg (!·) (decide_eq_decide.mpr ?_))
                simp
                omega
              by_cases w5 : w = sAgain
              · subst w5
                rw [decide_eq_true rfl] at tst3
                match rest, hl, hx with
                | [x2, x3], hl, hx =>
                  have xx2 : ∀ h, ixV (.tup [.str sAgain, b, x2, x3]) (.int 2) h = some x2 := fun h => by rw [x_tup]; exact at2
                  have xx3 : ∀ h, ixV (.tup [.str sAgain, b, x2, x3]) (.int 3) h = some x3 := fun h => by rw [x_tup]; exact at3
                  have w2' := P.whole h x2 (hx x2 (by simp)).part.1
                  have w3' := P.whole h x3 (hx x3 (by simp)).part.1
                  have w2' : recF F W bsP d 0 [x2] h = some (.bl (isInt x2), h) := by rw [g0]; exact w2'
                  have w3' : recF F W bsP d 0 [x3] h = some (.bl (isInt x3), h) := by rw [g0]; exact w3'
                  rw [show decide ([x2, x3].length = 2) = true from rfl] at ne4
                  cases e2 : isInt x2 with
                  | false =>
                    have pv : plotV (n + 1) (.tup [.str sAgain, b, x2, x3]) = false := by
                      rw [plotV_eq, if_neg w1, if_neg w2, if_pos rfl]
                      cases x2 <;> first | rfl | cases e2
                    rw [pv]
                    rw [e2] at w2'
                    generalize hL : ((([CV.str sAgain, b, x2, x3].length : Nat)) : Int) = L at bl c2 len2 ne4
                    generalize hZ : [CV.str sAgain, b, x2, x3] = Z at *
                    exact ⟨h, by simp only [b240, n240, run_eq, List.length_cons, List.length_nil, List.map_cons, List.map_nil, List.cons_append, List.nil_append, List.replicate, List.set_cons_zero, List.set_cons_succ, x_cons, x_nil, seqC_nx, seqC_rt, x_asg, asgK_nm, asgK_sub, retS_some, retH_some, sub1_eq, sub2_eq, x_expr, exK_eq, x_ret, retK_eq, x_retn, x_iff, iffK_t, iffK_f, x_fo, x_pas, x_par, runK_nx, runK_rt, bindE_some, bindL_some, bindO_some, bindI_some, bindB_some, liftB_some, retV_some, asB_bl, bin1_eq, e_bin, cmpK_eq, cmp1_eq, e_cmp, cmpR_t, cmpR_f, cmp2a_eq, e_cmp2, cmpR3_t, cmpR3_f, cmp3a_eq, e_cmp3, e_and, e_or, andK_t, andK_f, orK_t, orK_f, bOut_eq, notK_eq, e_not, negK_int, e_neg, iteK_t, iteK_f, e_ite, tupK2_eq, e_tup, lstK_eq, e_lst, e_dct0, ixK_eq, ix1_eq, e_ix, sl1_eq, sl2_eq, e_sl, e_rev, o_no, o_ex, oK_int, e_call, e_bi, e_me, s_nil, s_cons, consA_eq, consB_eq, e_lit, e_glob, e_var0, e_varS, e_comp, i_range1, i_range2, r2a_eq, i_val, vK_tup, vK_str, t_lit, t_cmp, t_cmp2, t_cmp3, t_call, t_bi, t_var, t_and, t_or, t_not, andT_t, andT_f, orT_t, orT_f, notT_eq, v_add, v_sub, c_lt, c_le, c_gt, c_ge, c_eqI, c_neI, c_eqS, c_neS, c_isN, c_isnotN, c_isB, c_isnotB, x_tup, x_lstV, sl_lstV, sl_tup, b_lenT, b_lenV, decide_true, decide_false, Bool.not_true, Bool.not_false, b_isi (i_tup ty), isTup, bl, c2, x0, is, eq1, tst, tst2, tst3, ne4, xx2, w2'], .refl _ _⟩
                  | true =>
                    obtain ⟨i2, rfl⟩ : ∃ i, x2 = .int i := by cases x2 <;> first | exact ⟨_, rfl⟩ | cases e2
                    rw [e2] at w2'
                    cases e3 : isInt x3 with
                    | false =>
                      have pv : plotV (n + 1) (.tup [.str sAgain, b, .int i2, x3]) = false := by
                        rw [plotV_eq, if_neg w1, if_neg w2, if_pos rfl]
                        cases x3 <;> first | rfl | cases e3
                      rw [pv]
                      rw [e3] at w3'
                      generalize hL : ((([CV.str sAgain, b, .int i2, x3].length : Nat)) : Int) = L at bl c2 len2 ne4
                      generalize hZ : [CV.str sAgain, b, .int i2, x3] = Z at *
                      exact ⟨h, by simp only [b240, n240, run_eq, List.length_cons, List.length_nil, List.map_cons, List.map_nil, List.cons_append, List.nil_append, List.replicate, List.set_cons_zero, List.set_cons_succ, x_cons, x_nil, seqC_nx, seqC_rt, x_asg, asgK_nm, asgK_sub, retS_some, retH_some, sub1_eq, sub2_eq, x_expr, exK_eq, x_ret, retK_eq, x_retn, x_iff, iffK_t, iffK_f, x_fo, x_pas, x_par, runK_nx, runK_rt, bindE_some, bindL_some, bindO_some, bindI_some, bindB_some, liftB_some, retV_some, asB_bl, bin1_eq, e_bin, cmpK_eq, cmp1_eq, e_cmp, cmpR_t, cmpR_f, cmp2a_eq, e_cmp2, cmpR3_t, cmpR3_f, cmp3a_eq, e_cmp3, e_and, e_or, andK_t, andK_f, orK_t, orK_f, bOut_eq, notK_eq, e_not, negK_int, e_neg, iteK_t, iteK_f, e_ite, tupK2_eq, e_tup, lstK_eq, e_lst, e_dct0, ixK_eq, ix1_eq, e_ix, sl1_eq, sl2_eq, e_sl, e_rev, o_no, o_ex, oK_int, e_call, e_bi, e_me, s_nil, s_cons, consA_eq, consB_eq, e_lit, e_glob, e_var0, e_varS, e_comp, i_range1, i_range2, r2a_eq, i_val, vK_tup, vK_str, t_lit, t_cmp, t_cmp2, t_cmp3, t_call, t_bi, t_var, t_and, t_or, t_not, andT_t, andT_f, orT_t, orT_f, notT_eq, v_add, v_sub, c_lt, c_le, c_gt, c_ge, c_eqI, c_neI, c_eqS, c_neS, c_isN, c_isnotN, c_isB, c_isnotB, x_tup, x_lstV, sl_lstV, sl_tup, b_lenT, b_lenV, decide_true, decide_false, Bool.not_true, Bool.not_false, b_isi (i_tup ty), isTup, bl, c2, x0, is, eq1, tst, tst2, tst3, ne4, xx2, w2', xx3, w3'], .refl _ _⟩
                    | true =>
                      obtain ⟨i3, rfl⟩ : ∃ i, x3 = .int i := by cases x3 <;> first | exact ⟨_, rfl⟩ | cases e3
                      rw [e3] at w3'
                      have pv : plotV (n + 1) (.tup [.str sAgain, b, .int i2, .int i3]) = (decide (0 ≤ i2 ∧ i2 ≤ i3 ∧ i3 ≤ 4) && plotV n b) := by
                        rw [plotV_eq, if_neg w1, if_neg w2, if_pos rfl] <;> rfl
                      rw [pv]
                      have q1 : cmpV .le (.int 0) (.int i2) h = some (decide (0 ≤ i2)) := rfl
                      have q2 : cmpV .le (.int i2) (.int i3) h = some (decide (i2 ≤ i3)) := rfl
                      have q3 : cmpV .le (.int i3) (.int 4) h = some (decide (i3 ≤ 4)) := rfl
                      generalize hL : ((([CV.str sAgain, b, .int i2, .int i3].length : Nat)) : Int) = L at bl c2 len2 ne4
                      generalize hZ : [CV.str sAgain, b, .int i2, .int i3] = Z at *
                      by_cases z1 : 0 ≤ i2
                      · rw [decide_eq_true z1] at q1
                        by_cases z2 : i2 ≤ i3
                        · rw [decide_eq_true z2] at q2
                          by_cases z3 : i3 ≤ 4
                          · rw [decide_eq_true z3] at q3
                            rw [decide_eq_true (show 0 ≤ i2 ∧ i2 ≤ i3 ∧ i3 ≤ 4 from ⟨z1, z2, z3⟩), Bool.true_and]
                            obtain ⟨h', er, o⟩ := ih d h b tb (by omega)
                            exact ⟨h', by simp only [b240, n240, run_eq, List.length_cons, List.length_nil, List.map_cons, List.map_nil, List.cons_append, List.nil_append, List.replicate, List.set_cons_zero, List.set_cons_succ, x_cons, x_nil, seqC_nx, seqC_rt, x_asg, asgK_nm, asgK_sub, retS_some, retH_some, sub1_eq, sub2_eq, x_expr, exK_eq, x_ret, retK_eq, x_retn, x_iff, iffK_t, iffK_f, x_fo, x_pas, x_par, runK_nx, runK_rt, bindE_some, bindL_some, bindO_some, bindI_some, bindB_some, liftB_some, retV_some, asB_bl, bin1_eq, e_bin, cmpK_eq, cmp1_eq, e_cmp, cmpR_t, cmpR_f, cmp2a_eq, e_cmp2, cmpR3_t, cmpR3_f, cmp3a_eq, e_cmp3, e_and, e_or, andK_t, andK_f, orK_t, orK_f, bOut_eq, notK_eq, e_not, negK_int, e_neg, iteK_t, iteK_f, e_ite, tupK2_eq, e_tup, lstK_eq, e_lst, e_dct0, ixK_eq, ix1_eq, e_ix, sl1_eq, sl2_eq, e_sl, e_rev, o_no, o_ex, oK_int, e_call, e_bi, e_me, s_nil, s_cons, consA_eq, consB_eq, e_lit, e_glob, e_var0, e_varS, e_comp, i_range1, i_range2, r2a_eq, i_val, vK_tup, vK_str, t_lit, t_cmp, t_cmp2, t_cmp3, t_call, t_bi, t_var, t_and, t_or, t_not, andT_t, andT_f, orT_t, orT_f, notT_eq, v_add, v_sub, c_lt, c_le, c_gt, c_ge, c_eqI, c_neI, c_eqS, c_neS, c_isN, c_isnotN, c_isB, c_isnotB, x_tup, x_lstV, sl_lstV, sl_tup, b_lenT, b_lenV, decide_true, decide_false, Bool.not_true, Bool.not_false, b_isi (i_tup ty), isTup, bl, c2, x0, is, eq1, tst, tst2, tst3, ne4, xx2, w2', xx3, w3', cmp3b_eq q1, cmp2b_eq q2, q3, x1, er], o⟩
                          · rw [decide_eq_false z3] at q3
                            rw [decide_eq_false (show ¬ (0 ≤ i2 ∧ i2 ≤ i3 ∧ i3 ≤ 4) from fun z => z3 z.2.2), Bool.false_and]
                            exact ⟨h, by simp only [b240, n240, run_eq, List.length_cons, List.length_nil, List.map_cons, List.map_nil, List.cons_append, List.nil_append, List.replicate, List.set_cons_zero, List.set_cons_succ, x_cons, x_nil, seqC_nx, seqC_rt, x_asg, asgK_nm, asgK_sub, retS_some, retH_some, sub1_eq, sub2_eq, x_expr, exK_eq, x_ret, retK_eq, x_retn, x_iff, iffK_t, iffK_f, x_fo, x_pas, x_par, runK_nx, runK_rt, bindE_some, bindL_some, bindO_some, bindI_some, bindB_some, liftB_some, retV_some, asB_bl, bin1_eq, e_bin, cmpK_eq, cmp1_eq, e_cmp, cmpR_t, cmpR_f, cmp2a_eq, e_cmp2, cmpR3_t, cmpR3_f, cmp3a_eq, e_cmp3, e_and, e_or, andK_t, andK_f, orK_t, orK_f, bOut_eq, notK_eq, e_not, negK_int, e_neg, iteK_t, iteK_f, e_ite, tupK2_eq, e_tup, lstK_eq, e_lst, e_dct0, ixK_eq, ix1_eq, e_ix, sl1_eq, sl2_eq, e_sl, e_rev, o_no, o_ex, oK_int, e_call, e_bi, e_me, s_nil, s_cons, consA_eq, consB_eq, e_lit, e_glob, e_var0, e_varS, e_comp, i_range1, i_range2, r2a_eq, i_val, vK_tup, vK_str, t_lit, t_cmp, t_cmp2, t_cmp3, t_call, t_bi, t_var, t_and, t_or, t_not, andT_t, andT_f, orT_t, orT_f, notT_eq, v_add, v_sub, c_lt, c_le, c_gt, c_ge, c_eqI, c_neI, c_eqS, c_neS, c_isN, c_isnotN, c_isB, c_isnotB, x_tup, x_lstV, sl_lstV, sl_tup, b_lenT, b_lenV, decide_true, decide_false, Bool.not_true, Bool.not_false, b_isi (i_tup ty), isTup, bl, c2, x0, is, eq1, tst, tst2, tst3, ne4, xx2, w2', xx3, w3', cmp3b_eq q1, cmp2b_eq q2, q3], .refl _ _⟩
                        · rw [decide_eq_false z2] at q2
                          rw [decide_eq_false (show ¬ (0 ≤ i2 ∧ i2 ≤ i3 ∧ i3 ≤ 4) from fun z => z2 z.2.1), Bool.false_and]
                          exact ⟨h, by simp only [b240, n240, run_eq, List.length_cons, List.length_nil, List.map_cons, List.map_nil, List.cons_append, List.nil_append, List.replicate, List.set_cons_zero, List.set_cons_succ, x_cons, x_nil, seqC_nx, seqC_rt, x_asg, asgK_nm, asgK_sub, retS_some, retH_some, sub1_eq, sub2_eq, x_expr, exK_eq, x_ret, retK_eq, x_retn, x_iff, iffK_t, iffK_f, x_fo, x_pas, x_par, runK_nx, runK_rt, bindE_some, bindL_some, bindO_some, bindI_some, bindB_some, liftB_some, retV_some, asB_bl, bin1_eq, e_bin, cmpK_eq, cmp1_eq, e_cmp, cmpR_t, cmpR_f, cmp2a_eq, e_cmp2, cmpR3_t, cmpR3_f, cmp3a_eq, e_cmp3, e_and, e_or, andK_t, andK_f, orK_t, orK_f, bOut_eq, notK_eq, e_not, negK_int, e_neg, iteK_t, iteK_f, e_ite, tupK2_eq, e_tup, lstK_eq, e_lst, e_dct0, ixK_eq, ix1_eq, e_ix, sl1_eq, sl2_eq, e_sl, e_rev, o_no, o_ex, oK_int, e_call, e_bi, e_me, s_nil, s_cons, consA_eq, consB_eq, e_lit, e_glob, e_var0, e_varS, e_comp, i_range1, i_range2, r2a_eq, i_val, vK_tup, vK_str, t_lit, t_cmp, t_cmp2, t_cmp3, t_call, t_bi, t_var, t_and, t_or, t_not, andT_t, andT_f, orT_t, orT_f, notT_eq, v_add, v_sub, c_lt, c_le, c_gt, c_ge, c_eqI, c_neI, c_eqS, c_neS, c_isN, c_isnotN, c_isB, c_isnotB, x_tup, x_lstV, sl_lstV, sl_tup, b_lenT, b_lenV, decide_true, decide_false, Bool.not_true, Bool.not_false, b_isi (i_tup ty), isTup, bl, c2, x0, is, eq1, tst, tst2, tst3, ne4, xx2, w2', xx3, w3', cmp3b_eq q1, cmp2b_eq q2], .refl _ _⟩
                      · rw [decide_eq_false z1] at q1
                        rw [decide_eq_false (show ¬ (0 ≤ i2 ∧ i2 ≤ i3 ∧ i3 ≤ 4) from fun z => z1 z.1), Bool.false_and]
                        exact ⟨h, by simp only [b240, n240, run_eq, List.length_cons, List.length_nil, List.map_cons, List.map_nil, List.cons_append, List.nil_append, List.replicate, List.set_cons_zero, List.set_cons_succ, x_cons, x_nil, seqC_nx, seqC_rt, x_asg, asgK_nm, asgK_sub, retS_some, retH_some, sub1_eq, sub2_eq, x_expr, exK_eq, x_ret, retK_eq, x_retn, x_iff, iffK_t, iffK_f, x_fo, x_pas, x_par, runK_nx, runK_rt, bindE_some, bindL_some, bindO_some, bindI_some, bindB_some, liftB_some, retV_some, asB_bl, bin1_eq, e_bin, cmpK_eq, cmp1_eq, e_cmp, cmpR_t, cmpR_f, cmp2a_eq, e_cmp2, cmpR3_t, cmpR3_f, cmp3a_eq, e_cmp3, e_and, e_or, andK_t, andK_f, orK_t, orK_f, bOut_eq, notK_eq, e_not, negK_int, e_neg, iteK_t, iteK_f, e_ite, tupK2_eq, e_tup, lstK_eq, e_lst, e_dct0, ixK_eq, ix1_eq, e_ix, sl1_eq, sl2_eq, e_sl, e_rev, o_no, o_ex, oK_int, e_call, e_bi, e_me, s_nil, s_cons, consA_eq, consB_eq, e_lit, e_glob, e_var0, e_varS, e_comp, i_range1, i_range2, r2a_eq, i_val, vK_tup, vK_str, t_lit, t_cmp, t_cmp2, t_cmp3, t_call, t_bi, t_var, t_and, t_or, t_not, andT_t, andT_f, orT_t, orT_f, notT_eq, v_add, v_sub, c_lt, c_le, c_gt, c_ge, c_eqI, c_neI, c_eqS, c_neS, c_isN, c_isnotN, c_isB, c_isnotB, x_tup, x_lstV, sl_lstV, sl_tup, b_lenT, b_lenV, decide_true, decide_false, Bool.not_true, Bool.not_false, b_isi (i_tup ty), isTup, bl, c2, x0, is, eq1, tst, tst2, tst3, ne4, xx2, w2', xx3, w3', cmp3b_eq q1], .refl _ _⟩
                | [], hl, hx =>
                  have pv : plotV (n + 1) (.tup [.str sAgain, b]) = false := by rw [plotV_eq, if_neg w1, if_neg w2, if_pos rfl] <;> rfl
                  rw [pv]
                  rw [show decide (([] : List CV).length = 2) = false from rfl] at ne4
                  generalize hL : ((([CV.str sAgain, b].length : Nat)) : Int) = L at bl c2 len2 ne4
                  generalize hZ : [CV.str sAgain, b] = Z at *
                  exact ⟨h, by simp only [b240, n240, run_eq, List.length_cons, List.length_nil, List.map_cons, List.map_nil, List.cons_append, List.nil_append, List.replicate, List.set_cons_zero, List.set_cons_succ, x_cons, x_nil, seqC_nx, seqC_rt, x_asg, asgK_nm, asgK_sub, retS_some, retH_some, sub1_eq, sub2_eq, x_expr, exK_eq, x_ret, retK_eq, x_retn, x_iff, iffK_t, iffK_f, x_fo, x_pas, x_par, runK_nx, runK_rt, bindE_some, bindL_some, bindO_some, bindI_some, bindB_some, liftB_some, retV_some, asB_bl, bin1_eq, e_bin, cmpK_eq, cmp1_eq, e_cmp, cmpR_t, cmpR_f, cmp2a_eq, e_cmp2, cmpR3_t, cmpR3_f, cmp3a_eq, e_cmp3, e_and, e_or, andK_t, andK_f, orK_t, orK_f, bOut_eq, notK_eq, e_not, negK_int, e_neg, iteK_t, iteK_f, e_ite, tupK2_eq, e_tup, lstK_eq, e_lst, e_dct0, ixK_eq, ix1_eq, e_ix, sl1_eq, sl2_eq, e_sl, e_rev, o_no, o_ex, oK_int, e_call, e_bi, e_me, s_nil, s_cons, consA_eq, consB_eq, e_lit, e_glob, e_var0, e_varS, e_comp, i_range1, i_range2, r2a_eq, i_val, vK_tup, vK_str, t_lit, t_cmp, t_cmp2, t_cmp3, t_call, t_bi, t_var, t_and, t_or, t_not, andT_t, andT_f, orT_t, orT_f, notT_eq, v_add, v_sub, c_lt, c_le, c_gt, c_ge, c_eqI, c_neI, c_eqS, c_neS, c_isN, c_isnotN, c_isB, c_isnotB, x_tup, x_lstV, sl_lstV, sl_tup, b_lenT, b_lenV, decide_true, decide_false, Bool.not_true, Bool.not_false, b_isi (i_tup ty), isTup, bl, c2, x0, is, eq1, tst, tst2, tst3, ne4], .refl _ _⟩
                | [x2], hl, hx =>
                  have pv : plotV (n + 1) (.tup [.str sAgain, b, x2]) = false := by rw [plotV_eq, if_neg w1, if_neg w2, if_pos rfl] <;> (cases x2 <;> rfl)
                  rw [pv]
                  rw [show decide ([x2].length = 2) = false from rfl] at ne4
                  generalize hL : ((([CV.str sAgain, b, x2].length : Nat)) : Int) = L at bl c2 len2 ne4
                  generalize hZ : [CV.str sAgain, b, x2] = Z at *
                  exact ⟨h, by simp only [b240, n240, run_eq, List.length_cons, List.length_nil, List.map_cons, List.map_nil, List.cons_append, List.nil_append, List.replicate, List.set_cons_zero, List.set_cons_succ, x_cons, x_nil, seqC_nx, seqC_rt, x_asg, asgK_nm, asgK_sub, retS_some, retH_some, sub1_eq, sub2_eq, x_expr, exK_eq, x_ret, retK_eq, x_retn, x_iff, iffK_t, iffK_f, x_fo, x_pas, x_par, runK_nx, runK_rt, bindE_some, bindL_some, bindO_some, bindI_some, bindB_some, liftB_some, retV_some, asB_bl, bin1_eq, e_bin, cmpK_eq, cmp1_eq, e_cmp, cmpR_t, cmpR_f, cmp2a_eq, e_cmp2, cmpR3_t, cmpR3_f, cmp3a_eq, e_cmp3, e_and, e_or, andK_t, andK_f, orK_t, orK_f, bOut_eq, notK_eq, e_not, negK_int, e_neg, iteK_t, iteK_f, e_ite, tupK2_eq, e_tup, lstK_eq, e_lst, e_dct0, ixK_eq, ix1_eq, e_ix, sl1_eq, sl2_eq, e_sl, e_rev, o_no, o_ex, oK_int, e_call, e_bi, e_me, s_nil, s_cons, consA_eq, consB_eq, e_lit, e_glob, e_var0, e_varS, e_comp, i_range1, i_range2, r2a_eq, i_val, vK_tup, vK_str, t_lit, t_cmp, t_cmp2, t_cmp3, t_call, t_bi, t_var, t_and, t_or, t_not, andT_t, andT_f, orT_t, orT_f, notT_eq, v_add, v_sub, c_lt, c_le, c_gt, c_ge, c_eqI, c_neI, c_eqS, c_neS, c_isN, c_isnotN, c_isB, c_isnotB, x_tup, x_lstV, sl_lstV, sl_tup, b_lenT, b_lenV, decide_true, decide_false, Bool.not_true, Bool.not_false, b_isi (i_tup ty), isTup, bl, c2, x0, is, eq1, tst, tst2, tst3, ne4], .refl _ _⟩
                | x2 :: x3 :: x4 :: rest, hl, hx =>
                  have pv : plotV (n + 1) (.tup (.str sAgain :: b :: x2 :: x3 :: x4 :: rest)) = false := by
                    rw [plotV_eq, if_neg w1, if_neg w2, if_pos rfl] <;> (cases x2 <;> first | rfl | (cases x3 <;> rfl))
                  rw [pv]
                  rw [decide_eq_false (show ¬ (x2 :: x3 :: x4 :: rest).length = 2 by simp)] at ne4
                  generalize hL : (((CV.str sAgain :: b :: x2 :: x3 :: x4 :: rest).length : Nat) : Int) = L at bl c2 len2 ne4
                  generalize hZ : CV.str sAgain :: b :: x2 :: x3 :: x4 :: rest = Z at *
                  exact ⟨h, by simp only [b240, n240, run_eq, List.length_cons, List.length_nil, List.map_cons, List.map_nil, List.cons_append, List.nil_append, List.replicate, List.set_cons_zero, List.set_cons_succ, x_cons, x_nil, seqC_nx, seqC_rt, x_asg, asgK_nm, asgK_sub, retS_some, retH_some, sub1_eq, sub2_eq, x_expr, exK_eq, x_ret, retK_eq, x_retn, x_iff, iffK_t, iffK_f, x_fo, x_pas, x_par, runK_nx, runK_rt, bindE_some, bindL_some, bindO_some, bindI_some, bindB_some, liftB_some, retV_some, asB_bl, bin1_eq, e_bin, cmpK_eq, cmp1_eq, e_cmp, cmpR_t, cmpR_f, cmp2a_eq, e_cmp2, cmpR3_t, cmpR3_f, cmp3a_eq, e_cmp3, e_and, e_or, andK_t, andK_f, orK_t, orK_f, bOut_eq, notK_eq, e_not, negK_int, e_neg, iteK_t, iteK_f, e_ite, tupK2_eq, e_tup, lstK_eq, e_lst, e_dct0, ixK_eq, ix1_eq, e_ix, sl1_eq, sl2_eq, e_sl, e_rev, o_no, o_ex, oK_int, e_call, e_bi, e_me, s_nil, s_cons, consA_eq, consB_eq, e_lit, e_glob, e_var0, e_varS, e_comp, i_range1, i_range2, r2a_eq, i_val, vK_tup, vK_str, t_lit, t_cmp, t_cmp2, t_cmp3, t_call, t_bi, t_var, t_and, t_or, t_not, andT_t, andT_f, orT_t, orT_f, notT_eq, v_add, v_sub, c_lt, c_le, c_gt, c_ge, c_eqI, c_neI, c_eqS, c_neS, c_isN, c_isnotN, c_isB, c_isnotB, x_tup, x_lstV, sl_lstV, sl_tup, b_lenT, b_lenV, decide_true, decide_false, Bool.not_true, Bool.not_false, b_isi (i_tup ty), isTup, bl, c2, x0, is, eq1, tst, tst2, tst3, ne4], .refl _ _⟩
              · have pv : plotV (n + 1) (.tup (.str w :: b :: rest)) = false := by rw [plotV_eq, if_neg w1, if_neg w2, if_neg w5] <;> rfl
                rw [pv]
                rw [decide_eq_false w5] at tst3
                generalize hL : (((CV.str w :: b :: rest).length : Nat) : Int) = L at bl c2 len2 ne4
                generalize hZ : CV.str w :: b :: rest = Z at *
                exact ⟨h, by simp only [b240, n240, run_eq, List.length_cons, List.length_nil, List.map_cons, List.map_nil, List.cons_append, List.nil_append, List.replicate, List.set_cons_zero, List.set_cons_succ, x_cons, x_nil, seqC_nx, seqC_rt, x_asg, asgK_nm, asgK_sub, retS_some, retH_some, sub1_eq, sub2_eq, x_expr, exK_eq, x_ret, retK_eq, x_retn, x_iff, iffK_t, iffK_f, x_fo, x_pas, x_par, runK_nx, runK_rt, bindE_some, bindL_some, bindO_some, bindI_some, bindB_some, liftB_some, retV_some, asB_bl, bin1_eq, e_bin, cmpK_eq, cmp1_eq, e_cmp, cmpR_t, cmpR_f, cmp2a_eq, e_cmp2, cmpR3_t, cmpR3_f, cmp3a_eq, e_cmp3, e_and, e_or, andK_t, andK_f, orK_t, orK_f, bOut_eq, notK_eq, e_not, negK_int, e_neg, iteK_t, iteK_f, e_ite, tupK2_eq, e_tup, lstK_eq, e_lst, e_dct0, ixK_eq, ix1_eq, e_ix, sl1_eq, sl2_eq, e_sl, e_rev, o_no, o_ex, oK_int, e_call, e_bi, e_me, s_nil, s_cons, consA_eq, consB_eq, e_lit, e_glob, e_var0, e_varS, e_comp, i_range1, i_range2, r2a_eq, i_val, vK_tup, vK_str, t_lit, t_cmp, t_cmp2, t_cmp3, t_call, t_bi, t_var, t_and, t_or, t_not, andT_t, andT_f, orT_t, orT_f, notT_eq, v_add, v_sub, c_lt, c_le, c_gt, c_ge, c_eqI, c_neI, c_eqS, c_neS, c_isN, c_isnotN, c_isB, c_isnotB, x_tup, x_lstV, sl_lstV, sl_tup, b_lenT, b_lenV, decide_true, decide_false, Bool.not_true, Bool.not_false, b_isi (i_tup ty), isTup, bl, c2, x0, is, eq1, tst, tst2, tst3], .refl _ _⟩
end TH

/-! What is a plot, by the law (268, 269, 270). -/
namespace TH
open PySem
mutual
theorem thg_den : ∀ (n m : Nat) (h : CH) (v : CV), Thg h n v → n < m → ∃ x, den h m v = some x
  | n, m, h, .non, _, _ => ⟨_, den_non h m⟩
  | n, m, h, .bl b, _, _ => ⟨_, den_bl h m b⟩
  | n, m, h, .int i, _, _ => ⟨_, den_int h m i⟩
  | n, m, h, .str s, _, _ => ⟨_, den_str h m s⟩
  | 0, m, h, .tup xs, t, _ => absurd rfl (t.2.1 xs)
  | 0, m, h, .ref r, t, _ => absurd rfl (t.2.2 r)
  | n, m, h, .lst xs, t, _ => (t.part.1).elim
  | n + 1, m, h, .tup xs, t, l => by
    obtain ⟨m, rfl⟩ : ∃ k, m = k + 1 := ⟨m - 1, by omega⟩
    obtain ⟨ys, e, _⟩ := thg_dens n m h xs (t.2.1 xs rfl).2 (by omega)
    exact ⟨.tup ys, by simp only [den, e, Option.map_some]⟩
  | n + 1, m, h, .ref r, t, l => by
    obtain ⟨m, rfl⟩ : ∃ k, m = k + 1 := ⟨m - 1, by omega⟩
    obtain ⟨xs, g, hx⟩ := t.2.2 r rfl
    obtain ⟨ys, e, _⟩ := thg_dens n m h xs hx (by omega)
    exact ⟨.lst ys, by simp only [den, g, e, Option.map_some]⟩
  termination_by n _ _ _ => (n, 1, 0)
theorem thg_dens : ∀ (n m : Nat) (h : CH) (xs : List CV), (∀ x ∈ xs, Thg h n x) → n < m → ∃ ys, dens h m xs = some ys ∧ ys.length = xs.length
  | n, m, h, [], _, _ => ⟨[], dens_nil h m, rfl⟩
  | n, m, h, x :: xs, t, l => by
    obtain ⟨y, e⟩ := thg_den n m h x (t x List.mem_cons_self) l
    obtain ⟨ys, e2, l2⟩ := thg_dens n m h xs (fun z hz => t z (List.mem_cons_of_mem _ hz)) l
    exact ⟨y :: ys, by rw [dens_cons, e, e2]; rfl, by simp [l2]⟩
  termination_by n _ _ xs => (n, 2, xs.length)
end
theorem eq_unit {n : Nat} {h : CH} {ps : List CV} (t : Thg h n (.tup ps)) (hn : n ≤ 18) : cmpV .eq (.tup ps) (.tup []) h = some ps.isEmpty := by
  have hi := t.items
  obtain ⟨ys, e, l⟩ := thg_dens n 19 h ps hi.2 (by omega)
  refine c_eq ?_
  have d1 : den h dep (.tup ps) = some (.tup ys) := by rw [show dep = 19 + 1 from rfl]; simp only [den, e, Option.map_some]
  have d2 : den h dep (.tup []) = some (.tup []) := by rw [show dep = 19 + 1 from rfl]; simp only [den, dens_nil, Option.map_some]
  unfold eqV
  rw [d1, d2]
  cases ps with
  | nil =>
    have : ys = [] := List.eq_nil_of_length_eq_zero l
    subst this
    rfl
  | cons p ps =>
    cases ys with
    | nil => simp at l
    | cons y ys => rfl
theorem run_lname268 (F : Fns) (W : Nat) {h : CH} {v : CV} (t : Typ h v) (hl : ∀ k, v = .str k → k.length ≤ 1000) : ∃ h', runC F W n268.length b268 [v] h = some (.bl (nmV v), h') ∧ Off [] h h' := by
  cases e : isStr v with
  | false =>
    have : nmV v = false := by cases v <;> first | rfl | cases e
    refine ⟨h, ?_, .refl _ _⟩
    simp only [b268, n268, run_eq, List.length_cons, List.length_nil, List.map_cons, List.map_nil, List.cons_append, List.nil_append, List.replicate, List.set_cons_zero, List.set_cons_succ, x_cons, x_nil, seqC_nx, seqC_rt, x_asg, asgK_nm, asgK_sub, retS_some, retH_some, sub1_eq, sub2_eq, x_expr, exK_eq, x_ret, retK_eq, x_retn, x_iff, iffK_t, iffK_f, x_fo, x_pas, x_par, runK_nx, runK_rt, bindE_some, bindL_some, bindO_some, bindI_some, bindB_some, liftB_some, retV_some, asB_bl, bin1_eq, e_bin, cmpK_eq, cmp1_eq, e_cmp, cmpR_t, cmpR_f, cmp2a_eq, e_cmp2, cmpR3_t, cmpR3_f, cmp3a_eq, e_cmp3, e_and, e_or, andK_t, andK_f, orK_t, orK_f, bOut_eq, notK_eq, e_not, negK_int, e_neg, iteK_t, iteK_f, e_ite, tupK2_eq, e_tup, lstK_eq, e_lst, e_dct0, ixK_eq, ix1_eq, e_ix, sl1_eq, sl2_eq, e_sl, e_rev, o_no, o_ex, oK_int, e_call, e_bi, e_me, s_nil, s_cons, consA_eq, consB_eq, e_lit, e_glob, e_var0, e_varS, e_comp, i_range1, i_range2, r2a_eq, i_val, vK_tup, vK_str, t_lit, t_cmp, t_cmp2, t_cmp3, t_call, t_bi, t_var, t_and, t_or, t_not, andT_t, andT_f, orT_t, orT_f, notT_eq, v_add, v_sub, c_lt, c_le, c_gt, c_ge, c_eqI, c_neI, c_eqS, c_neS, c_isN, c_isnotN, c_isB, c_isnotB, x_tup, x_lstV, sl_lstV, sl_tup, b_lenT, b_lenV, decide_true, decide_false, Bool.not_true, Bool.not_false, b_isi (i_str t), e, this]
  | true =>
    obtain ⟨k, rfl⟩ : ∃ k, v = .str k := by cases v <;> first | exact ⟨_, rfl⟩ | cases e
    have hk := hl k rfl
    have hkl : k.length ≤ lim := lim_big (by omega)
    have c1 : cmpV .le (.int 1) (.int (k.length : Int)) h = some (decide ((1 : Int) ≤ k.length)) := rfl
    have c2 : cmpV .le (.int (k.length : Int)) (.int 8) h = some (decide ((k.length : Int) ≤ 8)) := rfl
    by_cases h1 : (1 : Int) ≤ k.length
    · by_cases h2 : (k.length : Int) ≤ 8
      · have d1 : decide (1 ≤ k.length) = true := decide_eq_true (by omega)
        have d2 : decide (k.length ≤ 8) = true := decide_eq_true (by omega)
        have ec := comp_all (F := F) (s := [some (.str k), none]) (h := h) (elt := .cmp .isin (.var 1) (.lit (.str al))) (i := 1) (src := .str k) (xs := k.map fun c => CV.str [c])
          (fun x => match x with | .str [c] => .bl (decide (c ∈ al)) | x => x) (fun i => src_str) src_strL (by rw [List.length_map]; exact hkl) (fun x hx => by
            obtain ⟨c, hc, rfl⟩ := List.mem_map.mp hx
            simp only [run_eq, List.length_cons, List.length_nil, List.map_cons, List.map_nil, List.cons_append, List.nil_append, List.replicate, List.set_cons_zero, List.set_cons_succ, x_cons, x_nil, seqC_nx, seqC_rt, x_asg, asgK_nm, asgK_sub, retS_some, retH_some, sub1_eq, sub2_eq, x_expr, exK_eq, x_ret, retK_eq, x_retn, x_iff, iffK_t, iffK_f, x_fo, x_pas, x_par, runK_nx, runK_rt, bindE_some, bindL_some, bindO_some, bindI_some, bindB_some, liftB_some, retV_some, asB_bl, bin1_eq, e_bin, cmpK_eq, cmp1_eq, e_cmp, cmpR_t, cmpR_f, cmp2a_eq, e_cmp2, cmpR3_t, cmpR3_f, cmp3a_eq, e_cmp3, e_and, e_or, andK_t, andK_f, orK_t, orK_f, bOut_eq, notK_eq, e_not, negK_int, e_neg, iteK_t, iteK_f, e_ite, tupK2_eq, e_tup, lstK_eq, e_lst, e_dct0, ixK_eq, ix1_eq, e_ix, sl1_eq, sl2_eq, e_sl, e_rev, o_no, o_ex, oK_int, e_call, e_bi, e_me, s_nil, s_cons, consA_eq, consB_eq, e_lit, e_glob, e_var0, e_varS, e_comp, i_range1, i_range2, r2a_eq, i_val, vK_tup, vK_str, t_lit, t_cmp, t_cmp2, t_cmp3, t_call, t_bi, t_var, t_and, t_or, t_not, andT_t, andT_f, orT_t, orT_f, notT_eq, v_add, v_sub, c_lt, c_le, c_gt, c_ge, c_eqI, c_neI, c_eqS, c_neS, c_isN, c_isnotN, c_isB, c_isnotB, x_tup, x_lstV, sl_lstV, sl_tup, b_lenT, b_lenV, decide_true, decide_false, Bool.not_true, Bool.not_false, c_in (in_sign (h := h) (c := c) (t := al))])
        rw [List.map_map] at ec
        have em : k.map ((fun x => match x with | CV.str [c] => CV.bl (decide (c ∈ al)) | x => x) ∘ fun c => CV.str [c]) = (k.map fun c => decide (c ∈ al)).map CV.bl := by rw [List.map_map]; rfl
        rw [em] at ec
        have ea := b_all (get_new (h := h) (o := CO.lst ((k.map fun c => decide (c ∈ al)).map CV.bl)))
        have en : nmV (.str k) = (k.map fun c => decide (c ∈ al)).all id := by
          show nmB k = _
          unfold nmB
          rw [d1, d2, List.all_map]
          rfl
        refine ⟨h ++ [CO.lst ((k.map fun c => decide (c ∈ al)).map CV.bl)], ?_, Off.app [] h _⟩
        · rw [en]
          unfold al at ec ea ⊢
          simp only [b268, n268, run_eq, List.length_cons, List.length_nil, List.map_cons, List.map_nil, List.cons_append, List.nil_append, List.replicate, List.set_cons_zero, List.set_cons_succ, x_cons, x_nil, seqC_nx, seqC_rt, x_asg, asgK_nm, asgK_sub, retS_some, retH_some, sub1_eq, sub2_eq, x_expr, exK_eq, x_ret, retK_eq, x_retn, x_iff, iffK_t, iffK_f, x_fo, x_pas, x_par, runK_nx, runK_rt, bindE_some, bindL_some, bindO_some, bindI_some, bindB_some, liftB_some, retV_some, asB_bl, bin1_eq, e_bin, cmpK_eq, cmp1_eq, e_cmp, cmpR_t, cmpR_f, cmp2a_eq, e_cmp2, cmpR3_t, cmpR3_f, cmp3a_eq, e_cmp3, e_and, e_or, andK_t, andK_f, orK_t, orK_f, bOut_eq, notK_eq, e_not, negK_int, e_neg, iteK_t, iteK_f, e_ite, tupK2_eq, e_tup, lstK_eq, e_lst, e_dct0, ixK_eq, ix1_eq, e_ix, sl1_eq, sl2_eq, e_sl, e_rev, o_no, o_ex, oK_int, e_call, e_bi, e_me, s_nil, s_cons, consA_eq, consB_eq, e_lit, e_glob, e_var0, e_varS, e_comp, i_range1, i_range2, r2a_eq, i_val, vK_tup, vK_str, t_lit, t_cmp, t_cmp2, t_cmp3, t_call, t_bi, t_var, t_and, t_or, t_not, andT_t, andT_f, orT_t, orT_f, notT_eq, v_add, v_sub, c_lt, c_le, c_gt, c_ge, c_eqI, c_neI, c_eqS, c_neS, c_isN, c_isnotN, c_isB, c_isnotB, x_tup, x_lstV, sl_lstV, sl_tup, b_lenT, b_lenV, decide_true, decide_false, Bool.not_true, Bool.not_false, b_isi (i_str t), e, b_lenS hkl, cmp2b_eq c1, cmp2b_eq c2, h1, h2, ec, ea]
      · have en : nmV (.str k) = false := by
          show nmB k = false
          unfold nmB
          rw [decide_eq_false (show ¬ k.length ≤ 8 by omega), Bool.and_false, Bool.false_and]
        refine ⟨h, ?_, .refl _ _⟩
        simp only [b268, n268, run_eq, List.length_cons, List.length_nil, List.map_cons, List.map_nil, List.cons_append, List.nil_append, List.replicate, List.set_cons_zero, List.set_cons_succ, x_cons, x_nil, seqC_nx, seqC_rt, x_asg, asgK_nm, asgK_sub, retS_some, retH_some, sub1_eq, sub2_eq, x_expr, exK_eq, x_ret, retK_eq, x_retn, x_iff, iffK_t, iffK_f, x_fo, x_pas, x_par, runK_nx, runK_rt, bindE_some, bindL_some, bindO_some, bindI_some, bindB_some, liftB_some, retV_some, asB_bl, bin1_eq, e_bin, cmpK_eq, cmp1_eq, e_cmp, cmpR_t, cmpR_f, cmp2a_eq, e_cmp2, cmpR3_t, cmpR3_f, cmp3a_eq, e_cmp3, e_and, e_or, andK_t, andK_f, orK_t, orK_f, bOut_eq, notK_eq, e_not, negK_int, e_neg, iteK_t, iteK_f, e_ite, tupK2_eq, e_tup, lstK_eq, e_lst, e_dct0, ixK_eq, ix1_eq, e_ix, sl1_eq, sl2_eq, e_sl, e_rev, o_no, o_ex, oK_int, e_call, e_bi, e_me, s_nil, s_cons, consA_eq, consB_eq, e_lit, e_glob, e_var0, e_varS, e_comp, i_range1, i_range2, r2a_eq, i_val, vK_tup, vK_str, t_lit, t_cmp, t_cmp2, t_cmp3, t_call, t_bi, t_var, t_and, t_or, t_not, andT_t, andT_f, orT_t, orT_f, notT_eq, v_add, v_sub, c_lt, c_le, c_gt, c_ge, c_eqI, c_neI, c_eqS, c_neS, c_isN, c_isnotN, c_isB, c_isnotB, x_tup, x_lstV, sl_lstV, sl_tup, b_lenT, b_lenV, decide_true, decide_false, Bool.not_true, Bool.not_false, b_isi (i_str t), e, b_lenS hkl, cmp2b_eq c1, h1, h2, en]
    · have en : nmV (.str k) = false := by
        show nmB k = false
        unfold nmB
        rw [decide_eq_false (show ¬ 1 ≤ k.length by omega), Bool.false_and, Bool.false_and]
      refine ⟨h, ?_, .refl _ _⟩
      simp only [b268, n268, run_eq, List.length_cons, List.length_nil, List.map_cons, List.map_nil, List.cons_append, List.nil_append, List.replicate, List.set_cons_zero, List.set_cons_succ, x_cons, x_nil, seqC_nx, seqC_rt, x_asg, asgK_nm, asgK_sub, retS_some, retH_some, sub1_eq, sub2_eq, x_expr, exK_eq, x_ret, retK_eq, x_retn, x_iff, iffK_t, iffK_f, x_fo, x_pas, x_par, runK_nx, runK_rt, bindE_some, bindL_some, bindO_some, bindI_some, bindB_some, liftB_some, retV_some, asB_bl, bin1_eq, e_bin, cmpK_eq, cmp1_eq, e_cmp, cmpR_t, cmpR_f, cmp2a_eq, e_cmp2, cmpR3_t, cmpR3_f, cmp3a_eq, e_cmp3, e_and, e_or, andK_t, andK_f, orK_t, orK_f, bOut_eq, notK_eq, e_not, negK_int, e_neg, iteK_t, iteK_f, e_ite, tupK2_eq, e_tup, lstK_eq, e_lst, e_dct0, ixK_eq, ix1_eq, e_ix, sl1_eq, sl2_eq, e_sl, e_rev, o_no, o_ex, oK_int, e_call, e_bi, e_me, s_nil, s_cons, consA_eq, consB_eq, e_lit, e_glob, e_var0, e_varS, e_comp, i_range1, i_range2, r2a_eq, i_val, vK_tup, vK_str, t_lit, t_cmp, t_cmp2, t_cmp3, t_call, t_bi, t_var, t_and, t_or, t_not, andT_t, andT_f, orT_t, orT_f, notT_eq, v_add, v_sub, c_lt, c_le, c_gt, c_ge, c_eqI, c_neI, c_eqS, c_neS, c_isN, c_isnotN, c_isB, c_isnotB, x_tup, x_lstV, sl_lstV, sl_tup, b_lenT, b_lenV, decide_true, decide_false, Bool.not_true, Bool.not_false, b_isi (i_str t), e, b_lenS hkl, cmp2b_eq c1, h1, en]

theorem nm_kinds {k : List Nat} (h : k = kSend ∨ k = kTake) : nmB k = true := by rcases h with rfl | rfl <;> decide
theorem run_ldeed269 (F : Fns) (W : Nat) (hF : ∀ (h : CH) (v : CV), Part h v → ∃ h', F 268 [v] h = some (.bl (nmV v), h') ∧ Off [] h h') {h : CH} {v : CV} (t : TD h v) :
    ∃ h', runC F W n269.length b269 [v] h = some (.bl (deedV v), h') ∧ Off [] h h' := by
  have ty := t.1.1
  cases e : isTup v with
  | false =>
    have : deedV v = false := by cases v <;> first | rfl | cases e
    rw [this]
    exact ⟨h, by simp only [b269, n269, run_eq, List.length_cons, List.length_nil, List.map_cons, List.map_nil, List.cons_append, List.nil_append, List.replicate, List.set_cons_zero, List.set_cons_succ, x_cons, x_nil, seqC_nx, seqC_rt, x_asg, asgK_nm, asgK_sub, retS_some, retH_some, sub1_eq, sub2_eq, x_expr, exK_eq, x_ret, retK_eq, x_retn, x_iff, iffK_t, iffK_f, x_fo, x_pas, x_par, runK_nx, runK_rt, bindE_some, bindL_some, bindO_some, bindI_some, bindB_some, liftB_some, retV_some, asB_bl, bin1_eq, e_bin, cmpK_eq, cmp1_eq, e_cmp, cmpR_t, cmpR_f, cmp2a_eq, e_cmp2, cmpR3_t, cmpR3_f, cmp3a_eq, e_cmp3, e_and, e_or, andK_t, andK_f, orK_t, orK_f, bOut_eq, notK_eq, e_not, negK_int, e_neg, iteK_t, iteK_f, e_ite, tupK2_eq, e_tup, lstK_eq, e_lst, e_dct0, ixK_eq, ix1_eq, e_ix, sl1_eq, sl2_eq, e_sl, e_rev, o_no, o_ex, oK_int, e_call, e_bi, e_me, s_nil, s_cons, consA_eq, consB_eq, e_lit, e_glob, e_var0, e_varS, e_comp, i_range1, i_range2, r2a_eq, i_val, vK_tup, vK_str, t_lit, t_cmp, t_cmp2, t_cmp3, t_call, t_bi, t_var, t_and, t_or, t_not, andT_t, andT_f, orT_t, orT_f, notT_eq, v_add, v_sub, c_lt, c_le, c_gt, c_ge, c_eqI, c_neI, c_eqS, c_neS, c_isN, c_isnotN, c_isB, c_isnotB, x_tup, x_lstV, sl_lstV, sl_tup, b_lenT, b_lenV, decide_true, decide_false, Bool.not_true, Bool.not_false, b_isi (i_tup ty), e], .refl _ _⟩
  | true =>
    obtain ⟨xs, rfl⟩ : ∃ xs, v = .tup xs := by cases v <;> first | exact ⟨_, rfl⟩ | cases e
    by_cases hl : xs.length = 4
    · obtain ⟨k, a, b, c, rfl⟩ : ∃ k a b c, xs = [k, a, b, c] := by
        match xs, hl with
        | [k, a, b, c], _ => exact ⟨k, a, b, c, rfl⟩
      have hp' := t.2 _ rfl hl
      obtain ⟨h', ec, ea, o⟩ := all_step (F := F) (s := [some (.tup [k, a, b, c]), none]) (f := 268) (i := 1) (h := h) (xs := [k, a, b, c]) nmV (by simp) (fun x => rfl) (fun x hx h' o => hF h' x ((hp' x hx).off o))
      have bl : biV .len [.tup [k, a, b, c]] h = some (.int 4, h) := rfl
      have n4 : cmpV .ne (.int 4) (.int 4) h = some false := by rw [c_neI]; rfl
      have x0 : ∀ h, ixV (.tup [k, a, b, c]) (.int 0) h = some k := fun _ => rfl
      have x1 : ∀ h, ixV (.tup [k, a, b, c]) (.int 1) h = some a := fun _ => rfl
      have x2 : ∀ h, ixV (.tup [k, a, b, c]) (.int 2) h = some b := fun _ => rfl
      cases hall : [k, a, b, c].all nmV with
      | false =>
        rw [hall] at ea
        have ed : deedV (.tup [k, a, b, c]) = false := by
          cases hd : deedV (.tup [k, a, b, c]) with
          | false => rfl
          | true =>
            exfalso
            simp only [deedV, Bool.and_eq_true] at hd
            obtain ⟨⟨⟨⟨ha, hb⟩, hc⟩, hk⟩, _⟩ := hd
            have hk2 : nmV k = true := by
              cases k with
              | str kk =>
                simp only [kindV, Bool.or_eq_true, decide_eq_true_eq] at hk
                exact nm_kinds hk
              | _ => cases hk
            simp [hk2, ha, hb, hc] at hall
        rw [ed]
        generalize hZ : [k, a, b, c] = Z at *
        exact ⟨_, by simp only [b269, n269, run_eq, List.length_cons, List.length_nil, List.map_cons, List.map_nil, List.cons_append, List.nil_append, List.replicate, List.set_cons_zero, List.set_cons_succ, x_cons, x_nil, seqC_nx, seqC_rt, x_asg, asgK_nm, asgK_sub, retS_some, retH_some, sub1_eq, sub2_eq, x_expr, exK_eq, x_ret, retK_eq, x_retn, x_iff, iffK_t, iffK_f, x_fo, x_pas, x_par, runK_nx, runK_rt, bindE_some, bindL_some, bindO_some, bindI_some, bindB_some, liftB_some, retV_some, asB_bl, bin1_eq, e_bin, cmpK_eq, cmp1_eq, e_cmp, cmpR_t, cmpR_f, cmp2a_eq, e_cmp2, cmpR3_t, cmpR3_f, cmp3a_eq, e_cmp3, e_and, e_or, andK_t, andK_f, orK_t, orK_f, bOut_eq, notK_eq, e_not, negK_int, e_neg, iteK_t, iteK_f, e_ite, tupK2_eq, e_tup, lstK_eq, e_lst, e_dct0, ixK_eq, ix1_eq, e_ix, sl1_eq, sl2_eq, e_sl, e_rev, o_no, o_ex, oK_int, e_call, e_bi, e_me, s_nil, s_cons, consA_eq, consB_eq, e_lit, e_glob, e_var0, e_varS, e_comp, i_range1, i_range2, r2a_eq, i_val, vK_tup, vK_str, t_lit, t_cmp, t_cmp2, t_cmp3, t_call, t_bi, t_var, t_and, t_or, t_not, andT_t, andT_f, orT_t, orT_f, notT_eq, v_add, v_sub, c_lt, c_le, c_gt, c_ge, c_eqI, c_neI, c_eqS, c_neS, c_isN, c_isnotN, c_isB, c_isnotB, x_tup, x_lstV, sl_lstV, sl_tup, b_lenT, b_lenV, decide_true, decide_false, Bool.not_true, Bool.not_false, b_isi (i_tup ty), isTup, bl, n4, ec, ea], o⟩
      | true =>
        rw [hall] at ea
        have hn : nmV k = true ∧ nmV a = true ∧ nmV b = true ∧ nmV c = true := by
          simp only [List.all_cons, List.all_nil, Bool.and_true, Bool.and_eq_true] at hall
          exact hall
        obtain ⟨kk, rfl, _⟩ := nmV_str hn.1
        obtain ⟨ka, rfl, _⟩ := nmV_str hn.2.1
        obtain ⟨kb, rfl, _⟩ := nmV_str hn.2.2.1
        have ed : deedV (.tup [.str kk, .str ka, .str kb, c]) = (decide (kk ∈ [kSend, kTake]) && !decide (ka = kb)) := by
          simp only [deedV, hn.2.1, hn.2.2.1, hn.2.2.2, Bool.true_and, kindV]
          congr 1
          · by_cases h1 : kk = kSend <;> by_cases h2 : kk = kTake <;> simp [h1, h2]
          · by_cases h1 : ka = kb <;> simp [h1]
        rw [ed]
        generalize hH : h' ++ [CO.lst (([CV.str kk, .str ka, .str kb, c].map nmV).map .bl)] = H at ea o
        have ein : inV (H ++ [CO.lst [.str kSend, .str kTake]]) (.str kk) (.ref H.length) = some (decide (kk ∈ [kSend, kTake])) := in_strsL (ks := [kSend, kTake]) get_new
        have o2 : Off [] h (H ++ [CO.lst [.str kSend, .str kTake]]) := o.trans (Off.app _ _ _)
        have nn : cmpV .ne (.str ka) (.str kb) (H ++ [CO.lst [.str kSend, .str kTake]]) = some (!decide (ka = kb)) := neS _ _ _
        refine ⟨H ++ [CO.lst [.str kSend, .str kTake]], ?_, o2⟩
        have ec : compK F (.call 268 (.cons (.var 1) .nil)) (.lit (.bl true)) 1 [some (.tup [.str kk, .str ka, .str kb, c]), none] (.tup [.str kk, .str ka, .str kb, c]) h = some (.ref h'.length, H) := by rw [← hH]; exact ec
        unfold kSend kTake at ein nn ⊢
        generalize hZ : [CV.str kk, .str ka, .str kb, c] = Z at *
        cases hd : decide (kk ∈ [[115, 101, 110, 100], [116, 97, 107, 101]]) with
        | false =>
          rw [hd] at ein
          simp only [b269, n269, run_eq, List.length_cons, List.length_nil, List.map_cons, List.map_nil, List.cons_append, List.nil_append, List.replicate, List.set_cons_zero, List.set_cons_succ, x_cons, x_nil, seqC_nx, seqC_rt, x_asg, asgK_nm, asgK_sub, retS_some, retH_some, sub1_eq, sub2_eq, x_expr, exK_eq, x_ret, retK_eq, x_retn, x_iff, iffK_t, iffK_f, x_fo, x_pas, x_par, runK_nx, runK_rt, bindE_some, bindL_some, bindO_some, bindI_some, bindB_some, liftB_some, retV_some, asB_bl, bin1_eq, e_bin, cmpK_eq, cmp1_eq, e_cmp, cmpR_t, cmpR_f, cmp2a_eq, e_cmp2, cmpR3_t, cmpR3_f, cmp3a_eq, e_cmp3, e_and, e_or, andK_t, andK_f, orK_t, orK_f, bOut_eq, notK_eq, e_not, negK_int, e_neg, iteK_t, iteK_f, e_ite, tupK2_eq, e_tup, lstK_eq, e_lst, e_dct0, ixK_eq, ix1_eq, e_ix, sl1_eq, sl2_eq, e_sl, e_rev, o_no, o_ex, oK_int, e_call, e_bi, e_me, s_nil, s_cons, consA_eq, consB_eq, e_lit, e_glob, e_var0, e_varS, e_comp, i_range1, i_range2, r2a_eq, i_val, vK_tup, vK_str, t_lit, t_cmp, t_cmp2, t_cmp3, t_call, t_bi, t_var, t_and, t_or, t_not, andT_t, andT_f, orT_t, orT_f, notT_eq, v_add, v_sub, c_lt, c_le, c_gt, c_ge, c_eqI, c_neI, c_eqS, c_neS, c_isN, c_isnotN, c_isB, c_isnotB, x_tup, x_lstV, sl_lstV, sl_tup, b_lenT, b_lenV, decide_true, decide_false, Bool.not_true, Bool.not_false, b_isi (i_tup ty), isTup, bl, n4, ec, ea, x0, c_in ein]
          rfl
        | true =>
          rw [hd] at ein
          simp only [b269, n269, run_eq, List.length_cons, List.length_nil, List.map_cons, List.map_nil, List.cons_append, List.nil_append, List.replicate, List.set_cons_zero, List.set_cons_succ, x_cons, x_nil, seqC_nx, seqC_rt, x_asg, asgK_nm, asgK_sub, retS_some, retH_some, sub1_eq, sub2_eq, x_expr, exK_eq, x_ret, retK_eq, x_retn, x_iff, iffK_t, iffK_f, x_fo, x_pas, x_par, runK_nx, runK_rt, bindE_some, bindL_some, bindO_some, bindI_some, bindB_some, liftB_some, retV_some, asB_bl, bin1_eq, e_bin, cmpK_eq, cmp1_eq, e_cmp, cmpR_t, cmpR_f, cmp2a_eq, e_cmp2, cmpR3_t, cmpR3_f, cmp3a_eq, e_cmp3, e_and, e_or, andK_t, andK_f, orK_t, orK_f, bOut_eq, notK_eq, e_not, negK_int, e_neg, iteK_t, iteK_f, e_ite, tupK2_eq, e_tup, lstK_eq, e_lst, e_dct0, ixK_eq, ix1_eq, e_ix, sl1_eq, sl2_eq, e_sl, e_rev, o_no, o_ex, oK_int, e_call, e_bi, e_me, s_nil, s_cons, consA_eq, consB_eq, e_lit, e_glob, e_var0, e_varS, e_comp, i_range1, i_range2, r2a_eq, i_val, vK_tup, vK_str, t_lit, t_cmp, t_cmp2, t_cmp3, t_call, t_bi, t_var, t_and, t_or, t_not, andT_t, andT_f, orT_t, orT_f, notT_eq, v_add, v_sub, c_lt, c_le, c_gt, c_ge, c_eqI, c_neI, c_eqS, c_neS, c_isN, c_isnotN, c_isB, c_isnotB, x_tup, x_lstV, sl_lstV, sl_tup, b_lenT, b_lenV, decide_true, decide_false, Bool.not_true, Bool.not_false, b_isi (i_tup ty), isTup, bl, n4, ec, ea, x0, x1, x2, c_in ein, nn]
          rfl
    · have ed : deedV (.tup xs) = false := by
        match xs, hl with
        | [], _ => rfl
        | [_], _ => rfl
        | [_, _], _ => rfl
        | [_, _, _], _ => rfl
        | [_, _, _, _], hl => exact absurd rfl hl
        | _ :: _ :: _ :: _ :: _ :: _, _ => rfl
      have hn : cmpV .ne (.int (xs.length : Int)) (.int 4) h = some true := by rw [c_neI, decide_eq_false (by omega)]; rfl
      rw [ed]
      exact ⟨h, by simp only [b269, n269, run_eq, List.length_cons, List.length_nil, List.map_cons, List.map_nil, List.cons_append, List.nil_append, List.replicate, List.set_cons_zero, List.set_cons_succ, x_cons, x_nil, seqC_nx, seqC_rt, x_asg, asgK_nm, asgK_sub, retS_some, retH_some, sub1_eq, sub2_eq, x_expr, exK_eq, x_ret, retK_eq, x_retn, x_iff, iffK_t, iffK_f, x_fo, x_pas, x_par, runK_nx, runK_rt, bindE_some, bindL_some, bindO_some, bindI_some, bindB_some, liftB_some, retV_some, asB_bl, bin1_eq, e_bin, cmpK_eq, cmp1_eq, e_cmp, cmpR_t, cmpR_f, cmp2a_eq, e_cmp2, cmpR3_t, cmpR3_f, cmp3a_eq, e_cmp3, e_and, e_or, andK_t, andK_f, orK_t, orK_f, bOut_eq, notK_eq, e_not, negK_int, e_neg, iteK_t, iteK_f, e_ite, tupK2_eq, e_tup, lstK_eq, e_lst, e_dct0, ixK_eq, ix1_eq, e_ix, sl1_eq, sl2_eq, e_sl, e_rev, o_no, o_ex, oK_int, e_call, e_bi, e_me, s_nil, s_cons, consA_eq, consB_eq, e_lit, e_glob, e_var0, e_varS, e_comp, i_range1, i_range2, r2a_eq, i_val, vK_tup, vK_str, t_lit, t_cmp, t_cmp2, t_cmp3, t_call, t_bi, t_var, t_and, t_or, t_not, andT_t, andT_f, orT_t, orT_f, notT_eq, v_add, v_sub, c_lt, c_le, c_gt, c_ge, c_eqI, c_neI, c_eqS, c_neS, c_isN, c_isnotN, c_isB, c_isnotB, x_tup, x_lstV, sl_lstV, sl_tup, b_lenT, b_lenV, decide_true, decide_false, Bool.not_true, Bool.not_false, b_isi (i_tup ty), isTup, hn], .refl _ _⟩
end TH

/-! What is a plot, by the law (270). -/
namespace TH
open PySem
abbrev bsL : List (Nat × Nat × CSs) := [(270, n270.length, b270)]
theorem p270 (F : Fns) (W d : Nat) : recF F W bsL (d + 1) 270 = runC (recF F W bsL d) W n270.length b270 := rfl
theorem lne (F : Fns) (W d j : Nat) (h : (bsL.lookup j).isNone = true) : recF F W bsL d j = F j := by
  cases d <;> (unfold recF; cases e : bsL.lookup j with | none => rfl | some p => rw [e] at h; cases h)
theorem plot_other {n : Nat} {w : List Nat} {rest : List CV} (w1 : w ≠ sRow) (w2 : ¬ (w = sThen ∨ w = sOr)) (w5 : w ≠ sAgain) : plotV (n + 1) (.tup (.str w :: rest)) = false := by
  rw [plotV_eq, if_neg w1, if_neg w2, if_neg w5]
theorem run_lplot270 (F : Fns) (W : Nat) (hD : ∀ (h : CH) (v : CV), TD h v → ∃ h', F 269 [v] h = some (.bl (deedV v), h') ∧ Off [] h h') : ∀ (n d : Nat) (h : CH) (v : CV), Thg h n v → n ≤ 18 → n + 1 ≤ d → ∃ h', recF F W bsL d 270 [v] h = some (.bl (plotV n v), h') ∧ Off [] h h' := by
  intro n
  induction n with
  | zero =>
    intro d h v t _ hd
    obtain ⟨d, rfl⟩ : ∃ e, d = e + 1 := ⟨d - 1, by omega⟩
    rw [p270]
    have ty := t.part.1
    have e : isTup v = false := by cases v <;> first | rfl | exact absurd rfl (t.2.1 _)
    exact ⟨h, by simp only [b270, n270, run_eq, List.length_cons, List.length_nil, List.map_cons, List.map_nil, List.cons_append, List.nil_append, List.replicate, List.set_cons_zero, List.set_cons_succ, x_cons, x_nil, seqC_nx, seqC_rt, x_asg, asgK_nm, asgK_sub, retS_some, retH_some, sub1_eq, sub2_eq, x_expr, exK_eq, x_ret, retK_eq, x_retn, x_iff, iffK_t, iffK_f, x_fo, x_pas, x_par, runK_nx, runK_rt, bindE_some, bindL_some, bindO_some, bindI_some, bindB_some, liftB_some, retV_some, asB_bl, bin1_eq, e_bin, cmpK_eq, cmp1_eq, e_cmp, cmpR_t, cmpR_f, cmp2a_eq, e_cmp2, cmpR3_t, cmpR3_f, cmp3a_eq, e_cmp3, e_and, e_or, andK_t, andK_f, orK_t, orK_f, bOut_eq, notK_eq, e_not, negK_int, e_neg, iteK_t, iteK_f, e_ite, tupK2_eq, e_tup, lstK_eq, e_lst, e_dct0, ixK_eq, ix1_eq, e_ix, sl1_eq, sl2_eq, e_sl, e_rev, o_no, o_ex, oK_int, e_call, e_bi, e_me, s_nil, s_cons, consA_eq, consB_eq, e_lit, e_glob, e_var0, e_varS, e_comp, i_range1, i_range2, r2a_eq, i_val, vK_tup, vK_str, t_lit, t_cmp, t_cmp2, t_cmp3, t_call, t_bi, t_var, t_and, t_or, t_not, andT_t, andT_f, orT_t, orT_f, notT_eq, v_add, v_sub, c_lt, c_le, c_gt, c_ge, c_eqI, c_neI, c_eqS, c_neS, c_isN, c_isnotN, c_isB, c_isnotB, x_tup, x_lstV, sl_lstV, sl_tup, b_lenT, b_lenV, decide_true, decide_false, Bool.not_true, Bool.not_false, b_isi (i_tup ty), e, plotV], .refl _ _⟩
  | succ n ih =>
    intro d h v t hn hd
    obtain ⟨d, rfl⟩ : ∃ e, d = e + 1 := ⟨d - 1, by omega⟩
    rw [p270]
    have ty := t.part.1
    have g269 : recF F W bsL d 269 = F 269 := lne F W d 269 rfl
    cases e : isTup v with
    | false =>
      have : plotV (n + 1) v = false := by cases v <;> first | rfl | cases e
      rw [this]
      exact ⟨h, by simp only [b270, n270, run_eq, List.length_cons, List.length_nil, List.map_cons, List.map_nil, List.cons_append, List.nil_append, List.replicate, List.set_cons_zero, List.set_cons_succ, x_cons, x_nil, seqC_nx, seqC_rt, x_asg, asgK_nm, asgK_sub, retS_some, retH_some, sub1_eq, sub2_eq, x_expr, exK_eq, x_ret, retK_eq, x_retn, x_iff, iffK_t, iffK_f, x_fo, x_pas, x_par, runK_nx, runK_rt, bindE_some, bindL_some, bindO_some, bindI_some, bindB_some, liftB_some, retV_some, asB_bl, bin1_eq, e_bin, cmpK_eq, cmp1_eq, e_cmp, cmpR_t, cmpR_f, cmp2a_eq, e_cmp2, cmpR3_t, cmpR3_f, cmp3a_eq, e_cmp3, e_and, e_or, andK_t, andK_f, orK_t, orK_f, bOut_eq, notK_eq, e_not, negK_int, e_neg, iteK_t, iteK_f, e_ite, tupK2_eq, e_tup, lstK_eq, e_lst, e_dct0, ixK_eq, ix1_eq, e_ix, sl1_eq, sl2_eq, e_sl, e_rev, o_no, o_ex, oK_int, e_call, e_bi, e_me, s_nil, s_cons, consA_eq, consB_eq, e_lit, e_glob, e_var0, e_varS, e_comp, i_range1, i_range2, r2a_eq, i_val, vK_tup, vK_str, t_lit, t_cmp, t_cmp2, t_cmp3, t_call, t_bi, t_var, t_and, t_or, t_not, andT_t, andT_f, orT_t, orT_f, notT_eq, v_add, v_sub, c_lt, c_le, c_gt, c_ge, c_eqI, c_neI, c_eqS, c_neS, c_isN, c_isnotN, c_isB, c_isnotB, x_tup, x_lstV, sl_lstV, sl_tup, b_lenT, b_lenV, decide_true, decide_false, Bool.not_true, Bool.not_false, b_isi (i_tup ty), e], .refl _ _⟩
    | true =>
      obtain ⟨xs, rfl⟩ : ∃ xs, v = .tup xs := by cases v <;> first | exact ⟨_, rfl⟩ | cases e
      obtain ⟨hl, hx⟩ := t.2.1 xs rfl
      match xs, hl, hx with
      | [], _, _ =>
        have c1 : ∀ h, biV .len [.tup []] h = some (.int 0, h) := fun h => rfl
        have c2 : ∀ h, cmpV .lt (.int 0) (.int 2) h = some true := fun h => rfl
        exact ⟨h, by simp only [b270, n270, run_eq, List.length_cons, List.length_nil, List.map_cons, List.map_nil, List.cons_append, List.nil_append, List.replicate, List.set_cons_zero, List.set_cons_succ, x_cons, x_nil, seqC_nx, seqC_rt, x_asg, asgK_nm, asgK_sub, retS_some, retH_some, sub1_eq, sub2_eq, x_expr, exK_eq, x_ret, retK_eq, x_retn, x_iff, iffK_t, iffK_f, x_fo, x_pas, x_par, runK_nx, runK_rt, bindE_some, bindL_some, bindO_some, bindI_some, bindB_some, liftB_some, retV_some, asB_bl, bin1_eq, e_bin, cmpK_eq, cmp1_eq, e_cmp, cmpR_t, cmpR_f, cmp2a_eq, e_cmp2, cmpR3_t, cmpR3_f, cmp3a_eq, e_cmp3, e_and, e_or, andK_t, andK_f, orK_t, orK_f, bOut_eq, notK_eq, e_not, negK_int, e_neg, iteK_t, iteK_f, e_ite, tupK2_eq, e_tup, lstK_eq, e_lst, e_dct0, ixK_eq, ix1_eq, e_ix, sl1_eq, sl2_eq, e_sl, e_rev, o_no, o_ex, oK_int, e_call, e_bi, e_me, s_nil, s_cons, consA_eq, consB_eq, e_lit, e_glob, e_var0, e_varS, e_comp, i_range1, i_range2, r2a_eq, i_val, vK_tup, vK_str, t_lit, t_cmp, t_cmp2, t_cmp3, t_call, t_bi, t_var, t_and, t_or, t_not, andT_t, andT_f, orT_t, orT_f, notT_eq, v_add, v_sub, c_lt, c_le, c_gt, c_ge, c_eqI, c_neI, c_eqS, c_neS, c_isN, c_isnotN, c_isB, c_isnotB, x_tup, x_lstV, sl_lstV, sl_tup, b_lenT, b_lenV, decide_true, decide_false, Bool.not_true, Bool.not_false, b_isi (i_tup ty), isTup, c1, c2, plotV], .refl _ _⟩
      | [a], _, _ =>
        have c1 : ∀ h, biV .len [.tup [a]] h = some (.int 1, h) := fun h => rfl
        have c2 : ∀ h, cmpV .lt (.int 1) (.int 2) h = some true := fun h => rfl
        have : plotV (n + 1) (.tup [a]) = false := by
          cases a with
          | str w =>
            rw [plotV_eq]
            show (if w = sRow then false else if w = sThen ∨ w = sOr then false else if w = sAgain then false else false) = false
            split <;> (try split) <;> (try split) <;> rfl
          | _ => rfl
        rw [this]
        exact ⟨h, by simp only [b270, n270, run_eq, List.length_cons, List.length_nil, List.map_cons, List.map_nil, List.cons_append, List.nil_append, List.replicate, List.set_cons_zero, List.set_cons_succ, x_cons, x_nil, seqC_nx, seqC_rt, x_asg, asgK_nm, asgK_sub, retS_some, retH_some, sub1_eq, sub2_eq, x_expr, exK_eq, x_ret, retK_eq, x_retn, x_iff, iffK_t, iffK_f, x_fo, x_pas, x_par, runK_nx, runK_rt, bindE_some, bindL_some, bindO_some, bindI_some, bindB_some, liftB_some, retV_some, asB_bl, bin1_eq, e_bin, cmpK_eq, cmp1_eq, e_cmp, cmpR_t, cmpR_f, cmp2a_eq, e_cmp2, cmpR3_t, cmpR3_f, cmp3a_eq, e_cmp3, e_and, e_or, andK_t, andK_f, orK_t, orK_f, bOut_eq, notK_eq, e_not, negK_int, e_neg, iteK_t, iteK_f, e_ite, tupK2_eq, e_tup, lstK_eq, e_lst, e_dct0, ixK_eq, ix1_eq, e_ix, sl1_eq, sl2_eq, e_sl, e_rev, o_no, o_ex, oK_int, e_call, e_bi, e_me, s_nil, s_cons, consA_eq, consB_eq, e_lit, e_glob, e_var0, e_varS, e_comp, i_range1, i_range2, r2a_eq, i_val, vK_tup, vK_str, t_lit, t_cmp, t_cmp2, t_cmp3, t_call, t_bi, t_var, t_and, t_or, t_not, andT_t, andT_f, orT_t, orT_f, notT_eq, v_add, v_sub, c_lt, c_le, c_gt, c_ge, c_eqI, c_neI, c_eqS, c_neS, c_isN, c_isnotN, c_isB, c_isnotB, x_tup, x_lstV, sl_lstV, sl_tup, b_lenT, b_lenV, decide_true, decide_false, Bool.not_true, Bool.not_false, b_isi (i_tup ty), isTup, c1, c2], .refl _ _⟩
      | a :: b :: rest, hl, hx =>
        have bl : ∀ h, biV .len [.tup (a :: b :: rest)] h = some (.int (((a :: b :: rest).length : Nat) : Int), h) := fun h => b_lenT
        have c2 : ∀ h, cmpV .lt (.int (((a :: b :: rest).length : Nat) : Int)) (.int 2) h = some false := fun h => by rw [c_lt]; exact congrArg some (decide_eq_false (by simp; omega))
        have x0 : ∀ h, ixV (.tup (a :: b :: rest)) (.int 0) h = some a := fun h => by rw [x_tup]; exact at0
        have x1 : ∀ h, ixV (.tup (a :: b :: rest)) (.int 1) h = some b := fun h => by rw [x_tup]; exact at1
        have ta := hx a (by simp)
        have tb := hx b (by simp)
        have is := b_isi (i_str ta.part.1)
        have itb : ∀ h', Off [] h h' → biV (.isi .tup) [b] h' = some (.bl (isTup b), h') := fun h' o => b_isi (i_tup (tb.part.1.off o))
        cases ea : isStr a with
        | false =>
          have : plotV (n + 1) (.tup (a :: b :: rest)) = false := by cases a <;> first | rfl | cases ea
          rw [this]
          rw [ea] at is
          generalize hL : (((a :: b :: rest).length : Nat) : Int) = L at bl c2
          generalize hZ : a :: b :: rest = Z at *
          exact ⟨h, by simp only [b270, n270, run_eq, List.length_cons, List.length_nil, List.map_cons, List.map_nil, List.cons_append, List.nil_append, List.replicate, List.set_cons_zero, List.set_cons_succ, x_cons, x_nil, seqC_nx, seqC_rt, x_asg, asgK_nm, asgK_sub, retS_some, retH_some, sub1_eq, sub2_eq, x_expr, exK_eq, x_ret, retK_eq, x_retn, x_iff, iffK_t, iffK_f, x_fo, x_pas, x_par, runK_nx, runK_rt, bindE_some, bindL_some, bindO_some, bindI_some, bindB_some, liftB_some, retV_some, asB_bl, bin1_eq, e_bin, cmpK_eq, cmp1_eq, e_cmp, cmpR_t, cmpR_f, cmp2a_eq, e_cmp2, cmpR3_t, cmpR3_f, cmp3a_eq, e_cmp3, e_and, e_or, andK_t, andK_f, orK_t, orK_f, bOut_eq, notK_eq, e_not, negK_int, e_neg, iteK_t, iteK_f, e_ite, tupK2_eq, e_tup, lstK_eq, e_lst, e_dct0, ixK_eq, ix1_eq, e_ix, sl1_eq, sl2_eq, e_sl, e_rev, o_no, o_ex, oK_int, e_call, e_bi, e_me, s_nil, s_cons, consA_eq, consB_eq, e_lit, e_glob, e_var0, e_varS, e_comp, i_range1, i_range2, r2a_eq, i_val, vK_tup, vK_str, t_lit, t_cmp, t_cmp2, t_cmp3, t_call, t_bi, t_var, t_and, t_or, t_not, andT_t, andT_f, orT_t, orT_f, notT_eq, v_add, v_sub, c_lt, c_le, c_gt, c_ge, c_eqI, c_neI, c_eqS, c_neS, c_isN, c_isnotN, c_isB, c_isnotB, x_tup, x_lstV, sl_lstV, sl_tup, b_lenT, b_lenV, decide_true, decide_false, Bool.not_true, Bool.not_false, b_isi (i_tup ty), isTup, bl, c2, x0, is], .refl _ _⟩
        | true =>
          obtain ⟨w, rfl⟩ : ∃ w, a = .str w := by cases a <;> first | exact ⟨_, rfl⟩ | cases ea
          rw [ea] at is
          have len2 : ∀ h, cmpV .ne (.int (((CV.str w :: b :: rest).length : Nat) : Int)) (.int 2) h = some (!decide (rest = [])) := fun h => by
            rw [c_neI]
            refine congrArg some (congrArg (!·) (decide_eq_decide.mpr ⟨fun z => List.eq_nil_of_length_eq_zero (by simp at z; omega), fun z => by rw [z]; rfl⟩))
          have ne4 : ∀ h, cmpV .ne (.int (((CV.str w :: b :: rest).length : Nat) : Int)) (.int 4) h = some (!decide (rest.length = 2)) := fun h => by
            rw [c_neI]
            refine congrArg some (congrArg (!·) (decide_eq_decide.mpr ?_))
            simp
            omega
          by_cases w1 : w = sRow
          · subst w1
            have eq1 : ∀ h, cmpV .eq (.str sRow) (.str [114, 111, 119]) h = some true := fun h => by rw [eqS]; rfl
            have pv : plotV (n + 1) (.tup (.str sRow :: b :: rest)) = (decide (rest = []) && rowV b) := by
              rw [plotV_eq, if_pos rfl]
              cases rest <;> simp
            rw [pv]
            generalize hL : (((CV.str sRow :: b :: rest).length : Nat) : Int) = L at bl c2 len2 ne4
            cases rest with
            | nil =>
              rw [decide_eq_true rfl] at len2 ⊢
              rw [Bool.true_and]
              have itb0 := itb h (.refl _ _)
              cases eb : isTup b with
              | false =>
                rw [eb] at itb0
                have : rowV b = false := by cases b <;> first | rfl | cases eb
                rw [this]
                generalize hZ : [CV.str sRow, b] = Z at *
                exact ⟨h, by simp only [b270, n270, run_eq, List.length_cons, List.length_nil, List.map_cons, List.map_nil, List.cons_append, List.nil_append, List.replicate, List.set_cons_zero, List.set_cons_succ, x_cons, x_nil, seqC_nx, seqC_rt, x_asg, asgK_nm, asgK_sub, retS_some, retH_some, sub1_eq, sub2_eq, x_expr, exK_eq, x_ret, retK_eq, x_retn, x_iff, iffK_t, iffK_f, x_fo, x_pas, x_par, runK_nx, runK_rt, bindE_some, bindL_some, bindO_some, bindI_some, bindB_some, liftB_some, retV_some, asB_bl, bin1_eq, e_bin, cmpK_eq, cmp1_eq, e_cmp, cmpR_t, cmpR_f, cmp2a_eq, e_cmp2, cmpR3_t, cmpR3_f, cmp3a_eq, e_cmp3, e_and, e_or, andK_t, andK_f, orK_t, orK_f, bOut_eq, notK_eq, e_not, negK_int, e_neg, iteK_t, iteK_f, e_ite, tupK2_eq, e_tup, lstK_eq, e_lst, e_dct0, ixK_eq, ix1_eq, e_ix, sl1_eq, sl2_eq, e_sl, e_rev, o_no, o_ex, oK_int, e_call, e_bi, e_me, s_nil, s_cons, consA_eq, consB_eq, e_lit, e_glob, e_var0, e_varS, e_comp, i_range1, i_range2, r2a_eq, i_val, vK_tup, vK_str, t_lit, t_cmp, t_cmp2, t_cmp3, t_call, t_bi, t_var, t_and, t_or, t_not, andT_t, andT_f, orT_t, orT_f, notT_eq, v_add, v_sub, c_lt, c_le, c_gt, c_ge, c_eqI, c_neI, c_eqS, c_neS, c_isN, c_isnotN, c_isB, c_isnotB, x_tup, x_lstV, sl_lstV, sl_tup, b_lenT, b_lenV, decide_true, decide_false, Bool.not_true, Bool.not_false, b_isi (i_tup ty), isTup, bl, c2, x0, is, eq1, len2, x1, itb0], .refl _ _⟩
              | true =>
                rw [eb] at itb0
                obtain ⟨ys, rfl⟩ : ∃ ys, b = .tup ys := by cases b <;> first | exact ⟨_, rfl⟩ | cases eb
                obtain ⟨lb, mb⟩ := tb.items
                obtain ⟨h', ec, ea', o⟩ := all_step (F := recF F W bsL d) (s := [some (.tup [CV.str sRow, .tup ys]), none, none, none]) (f := 269) (i := 2) (h := h) (xs := ys) deedV lb (fun x => rfl) (fun x hx' h' o => by
                  rw [g269]
                  exact hD h' x (((mb x hx').off o).td))
                have pr : rowV (.tup ys) = ys.all deedV := rfl
                rw [pr]
                refine ⟨_, ?_, o⟩
                generalize hZ : [CV.str sRow, .tup ys] = Z at *
                simp only [b270, n270, run_eq, List.length_cons, List.length_nil, List.map_cons, List.map_nil, List.cons_append, List.nil_append, List.replicate, List.set_cons_zero, List.set_cons_succ, x_cons, x_nil, seqC_nx, seqC_rt, x_asg, asgK_nm, asgK_sub, retS_some, retH_some, sub1_eq, sub2_eq, x_expr, exK_eq, x_ret, retK_eq, x_retn, x_iff, iffK_t, iffK_f, x_fo, x_pas, x_par, runK_nx, runK_rt, bindE_some, bindL_some, bindO_some, bindI_some, bindB_some, liftB_some, retV_some, asB_bl, bin1_eq, e_bin, cmpK_eq, cmp1_eq, e_cmp, cmpR_t, cmpR_f, cmp2a_eq, e_cmp2, cmpR3_t, cmpR3_f, cmp3a_eq, e_cmp3, e_and, e_or, andK_t, andK_f, orK_t, orK_f, bOut_eq, notK_eq, e_not, negK_int, e_neg, iteK_t, iteK_f, e_ite, tupK2_eq, e_tup, lstK_eq, e_lst, e_dct0, ixK_eq, ix1_eq, e_ix, sl1_eq, sl2_eq, e_sl, e_rev, o_no, o_ex, oK_int, e_call, e_bi, e_me, s_nil, s_cons, consA_eq, consB_eq, e_lit, e_glob, e_var0, e_varS, e_comp, i_range1, i_range2, r2a_eq, i_val, vK_tup, vK_str, t_lit, t_cmp, t_cmp2, t_cmp3, t_call, t_bi, t_var, t_and, t_or, t_not, andT_t, andT_f, orT_t, orT_f, notT_eq, v_add, v_sub, c_lt, c_le, c_gt, c_ge, c_eqI, c_neI, c_eqS, c_neS, c_isN, c_isnotN, c_isB, c_isnotB, x_tup, x_lstV, sl_lstV, sl_tup, b_lenT, b_lenV, decide_true, decide_false, Bool.not_true, Bool.not_false, b_isi (i_tup ty), isTup, bl, c2, x0, is, eq1, len2, x1, itb0, ec, ea']
            | cons c rest =>
              rw [decide_eq_false (by simp)] at len2 ⊢
              generalize hZ : CV.str sRow :: b :: c :: rest = Z at *
              exact ⟨h, by simp only [b270, n270, run_eq, List.length_cons, List.length_nil, List.map_cons, List.map_nil, List.cons_append, List.nil_append, List.replicate, List.set_cons_zero, List.set_cons_succ, x_cons, x_nil, seqC_nx, seqC_rt, x_asg, asgK_nm, asgK_sub, retS_some, retH_some, sub1_eq, sub2_eq, x_expr, exK_eq, x_ret, retK_eq, x_retn, x_iff, iffK_t, iffK_f, x_fo, x_pas, x_par, runK_nx, runK_rt, bindE_some, bindL_some, bindO_some, bindI_some, bindB_some, liftB_some, retV_some, asB_bl, bin1_eq, e_bin, cmpK_eq, cmp1_eq, e_cmp, cmpR_t, cmpR_f, cmp2a_eq, e_cmp2, cmpR3_t, cmpR3_f, cmp3a_eq, e_cmp3, e_and, e_or, andK_t, andK_f, orK_t, orK_f, bOut_eq, notK_eq, e_not, negK_int, e_neg, iteK_t, iteK_f, e_ite, tupK2_eq, e_tup, lstK_eq, e_lst, e_dct0, ixK_eq, ix1_eq, e_ix, sl1_eq, sl2_eq, e_sl, e_rev, o_no, o_ex, oK_int, e_call, e_bi, e_me, s_nil, s_cons, consA_eq, consB_eq, e_lit, e_glob, e_var0, e_varS, e_comp, i_range1, i_range2, r2a_eq, i_val, vK_tup, vK_str, t_lit, t_cmp, t_cmp2, t_cmp3, t_call, t_bi, t_var, t_and, t_or, t_not, andT_t, andT_f, orT_t, orT_f, notT_eq, v_add, v_sub, c_lt, c_le, c_gt, c_ge, c_eqI, c_neI, c_eqS, c_neS, c_isN, c_isnotN, c_isB, c_isnotB, x_tup, x_lstV, sl_lstV, sl_tup, b_lenT, b_lenV, decide_true, decide_false, Bool.not_true, Bool.not_false, b_isi (i_tup ty), isTup, bl, c2, x0, is, eq1, len2, Bool.false_and], .refl _ _⟩
          · have eq1 : ∀ h, cmpV .eq (.str w) (.str [114, 111, 119]) h = some false := fun h => by rw [eqS]; exact congrArg some (decide_eq_false w1)
            have eq2 : ∀ h, cmpV .eq (.str w) (.str [97, 103, 97, 105, 110]) h = some (decide (w = sAgain)) := fun h => eqS h w sAgain
            by_cases w5 : w = sAgain
            · subst w5
              have w2 : ¬ (sAgain = sThen ∨ sAgain = sOr) := by decide
              rw [decide_eq_true rfl] at eq2
              match rest, hl, hx with
              | [x2, x3], hl, hx =>
                rw [show decide ([x2, x3].length = 2) = true from rfl] at ne4
                have xx2 : ∀ h, ixV (.tup [.str sAgain, b, x2, x3]) (.int 2) h = some x2 := fun h => by rw [x_tup]; exact at2
                have xx3 : ∀ h, ixV (.tup [.str sAgain, b, x2, x3]) (.int 3) h = some x3 := fun h => by rw [x_tup]; exact at3
                have cu : cut [CV.str sAgain, b, x2, x3] (some 2) none = [x2, x3] := cut_from [CV.str sAgain, b, x2, x3] 2
                have ii2 := b_isi (i_int (hx x2 (by simp)).part.1)
                have ib2 := b_isi (i_bool (hx x2 (by simp)).part.1)
                have ii3 := b_isi (i_int (hx x3 (by simp)).part.1)
                have ib3 := b_isi (i_bool (hx x3 (by simp)).part.1)
                cases e2 : isInt x2 with
                | false =>
                  have pv : plotV (n + 1) (.tup [.str sAgain, b, x2, x3]) = false := by
                    rw [plotV_eq, if_neg w1, if_neg w2, if_pos rfl]
                    cases x2 <;> first | rfl | cases e2
                  rw [pv]
                  rw [e2, Bool.false_or] at ii2
                  generalize hL : ((([CV.str sAgain, b, x2, x3].length : Nat)) : Int) = L at bl c2 len2 ne4
                  generalize hZ : [CV.str sAgain, b, x2, x3] = Z at *
                  cases eb2 : isBl x2 with
                  | false =>
                    rw [eb2] at ii2 ib2
                    exact ⟨h, by simp only [b270, n270, run_eq, List.length_cons, List.length_nil, List.map_cons, List.map_nil, List.cons_append, List.nil_append, List.replicate, List.set_cons_zero, List.set_cons_succ, x_cons, x_nil, seqC_nx, seqC_rt, x_asg, asgK_nm, asgK_sub, retS_some, retH_some, sub1_eq, sub2_eq, x_expr, exK_eq, x_ret, retK_eq, x_retn, x_iff, iffK_t, iffK_f, x_fo, x_pas, x_par, runK_nx, runK_rt, bindE_some, bindL_some, bindO_some, bindI_some, bindB_some, liftB_some, retV_some, asB_bl, bin1_eq, e_bin, cmpK_eq, cmp1_eq, e_cmp, cmpR_t, cmpR_f, cmp2a_eq, e_cmp2, cmpR3_t, cmpR3_f, cmp3a_eq, e_cmp3, e_and, e_or, andK_t, andK_f, orK_t, orK_f, bOut_eq, notK_eq, e_not, negK_int, e_neg, iteK_t, iteK_f, e_ite, tupK2_eq, e_tup, lstK_eq, e_lst, e_dct0, ixK_eq, ix1_eq, e_ix, sl1_eq, sl2_eq, e_sl, e_rev, o_no, o_ex, oK_int, e_call, e_bi, e_me, s_nil, s_cons, consA_eq, consB_eq, e_lit, e_glob, e_var0, e_varS, e_comp, i_range1, i_range2, r2a_eq, i_val, vK_tup, vK_str, t_lit, t_cmp, t_cmp2, t_cmp3, t_call, t_bi, t_var, t_and, t_or, t_not, andT_t, andT_f, orT_t, orT_f, notT_eq, v_add, v_sub, c_lt, c_le, c_gt, c_ge, c_eqI, c_neI, c_eqS, c_neS, c_isN, c_isnotN, c_isB, c_isnotB, x_tup, x_lstV, sl_lstV, sl_tup, b_lenT, b_lenV, decide_true, decide_false, Bool.not_true, Bool.not_false, b_isi (i_tup ty), isTup, bl, c2, x0, is, eq1, eq2, ne4, cu, foK_tup, forL_cons, foB_nm, ii2, ib2], .refl _ _⟩
                  | true =>
                    rw [eb2] at ii2 ib2
                    exact ⟨h, by simp only [b270, n270, run_eq, List.length_cons, List.length_nil, List.map_cons, List.map_nil, List.cons_append, List.nil_append, List.replicate, List.set_cons_zero, List.set_cons_succ, x_cons, x_nil, seqC_nx, seqC_rt, x_asg, asgK_nm, asgK_sub, retS_some, retH_some, sub1_eq, sub2_eq, x_expr, exK_eq, x_ret, retK_eq, x_retn, x_iff, iffK_t, iffK_f, x_fo, x_pas, x_par, runK_nx, runK_rt, bindE_some, bindL_some, bindO_some, bindI_some, bindB_some, liftB_some, retV_some, asB_bl, bin1_eq, e_bin, cmpK_eq, cmp1_eq, e_cmp, cmpR_t, cmpR_f, cmp2a_eq, e_cmp2, cmpR3_t, cmpR3_f, cmp3a_eq, e_cmp3, e_and, e_or, andK_t, andK_f, orK_t, orK_f, bOut_eq, notK_eq, e_not, negK_int, e_neg, iteK_t, iteK_f, e_ite, tupK2_eq, e_tup, lstK_eq, e_lst, e_dct0, ixK_eq, ix1_eq, e_ix, sl1_eq, sl2_eq, e_sl, e_rev, o_no, o_ex, oK_int, e_call, e_bi, e_me, s_nil, s_cons, consA_eq, consB_eq, e_lit, e_glob, e_var0, e_varS, e_comp, i_range1, i_range2, r2a_eq, i_val, vK_tup, vK_str, t_lit, t_cmp, t_cmp2, t_cmp3, t_call, t_bi, t_var, t_and, t_or, t_not, andT_t, andT_f, orT_t, orT_f, notT_eq, v_add, v_sub, c_lt, c_le, c_gt, c_ge, c_eqI, c_neI, c_eqS, c_neS, c_isN, c_isnotN, c_isB, c_isnotB, x_tup, x_lstV, sl_lstV, sl_tup, b_lenT, b_lenV, decide_true, decide_false, Bool.not_true, Bool.not_false, b_isi (i_tup ty), isTup, bl, c2, x0, is, eq1, eq2, ne4, cu, foK_tup, forL_cons, foB_nm, ii2, ib2], .refl _ _⟩
                | true =>
                  obtain ⟨i2, rfl⟩ : ∃ i, x2 = .int i := by cases x2 <;> first | exact ⟨_, rfl⟩ | cases e2
                  have ii2 : biV (.isi .int) [.int i2] h = some (.bl true, h) := rfl
                  have ib2 : biV (.isi .bool) [.int i2] h = some (.bl false, h) := rfl
                  cases e3 : isInt x3 with
                  | false =>
                    have pv : plotV (n + 1) (.tup [.str sAgain, b, .int i2, x3]) = false := by
                      rw [plotV_eq, if_neg w1, if_neg w2, if_pos rfl]
                      cases x3 <;> first | rfl | cases e3
                    rw [pv]
                    rw [e3, Bool.false_or] at ii3
                    generalize hL : ((([CV.str sAgain, b, .int i2, x3].length : Nat)) : Int) = L at bl c2 len2 ne4
                    generalize hZ : [CV.str sAgain, b, .int i2, x3] = Z at *
                    cases eb3 : isBl x3 with
                    | false =>
                      rw [eb3] at ii3 ib3
                      exact ⟨h, by simp only [b270, n270, run_eq, List.length_cons, List.length_nil, List.map_cons, List.map_nil, List.cons_append, List.nil_append, List.replicate, List.set_cons_zero, List.set_cons_succ, x_cons, x_nil, seqC_nx, seqC_rt, x_asg, asgK_nm, asgK_sub, retS_some, retH_some, sub1_eq, sub2_eq, x_expr, exK_eq, x_ret, retK_eq, x_retn, x_iff, iffK_t, iffK_f, x_fo, x_pas, x_par, runK_nx, runK_rt, bindE_some, bindL_some, bindO_some, bindI_some, bindB_some, liftB_some, retV_some, asB_bl, bin1_eq, e_bin, cmpK_eq, cmp1_eq, e_cmp, cmpR_t, cmpR_f, cmp2a_eq, e_cmp2, cmpR3_t, cmpR3_f, cmp3a_eq, e_cmp3, e_and, e_or, andK_t, andK_f, orK_t, orK_f, bOut_eq, notK_eq, e_not, negK_int, e_neg, iteK_t, iteK_f, e_ite, tupK2_eq, e_tup, lstK_eq, e_lst, e_dct0, ixK_eq, ix1_eq, e_ix, sl1_eq, sl2_eq, e_sl, e_rev, o_no, o_ex, oK_int, e_call, e_bi, e_me, s_nil, s_cons, consA_eq, consB_eq, e_lit, e_glob, e_var0, e_varS, e_comp, i_range1, i_range2, r2a_eq, i_val, vK_tup, vK_str, t_lit, t_cmp, t_cmp2, t_cmp3, t_call, t_bi, t_var, t_and, t_or, t_not, andT_t, andT_f, orT_t, orT_f, notT_eq, v_add, v_sub, c_lt, c_le, c_gt, c_ge, c_eqI, c_neI, c_eqS, c_neS, c_isN, c_isnotN, c_isB, c_isnotB, x_tup, x_lstV, sl_lstV, sl_tup, b_lenT, b_lenV, decide_true, decide_false, Bool.not_true, Bool.not_false, b_isi (i_tup ty), isTup, bl, c2, x0, is, eq1, eq2, ne4, cu, foK_tup, forL_cons, foB_nm, ii2, ib2, ii3, ib3], .refl _ _⟩
                    | true =>
                      rw [eb3] at ii3 ib3
                      exact ⟨h, by simp only [b270, n270, run_eq, List.length_cons, List.length_nil, List.map_cons, List.map_nil, List.cons_append, List.nil_append, List.replicate, List.set_cons_zero, List.set_cons_succ, x_cons, x_nil, seqC_nx, seqC_rt, x_asg, asgK_nm, asgK_sub, retS_some, retH_some, sub1_eq, sub2_eq, x_expr, exK_eq, x_ret, retK_eq, x_retn, x_iff, iffK_t, iffK_f, x_fo, x_pas, x_par, runK_nx, runK_rt, bindE_some, bindL_some, bindO_some, bindI_some, bindB_some, liftB_some, retV_some, asB_bl, bin1_eq, e_bin, cmpK_eq, cmp1_eq, e_cmp, cmpR_t, cmpR_f, cmp2a_eq, e_cmp2, cmpR3_t, cmpR3_f, cmp3a_eq, e_cmp3, e_and, e_or, andK_t, andK_f, orK_t, orK_f, bOut_eq, notK_eq, e_not, negK_int, e_neg, iteK_t, iteK_f, e_ite, tupK2_eq, e_tup, lstK_eq, e_lst, e_dct0, ixK_eq, ix1_eq, e_ix, sl1_eq, sl2_eq, e_sl, e_rev, o_no, o_ex, oK_int, e_call, e_bi, e_me, s_nil, s_cons, consA_eq, consB_eq, e_lit, e_glob, e_var0, e_varS, e_comp, i_range1, i_range2, r2a_eq, i_val, vK_tup, vK_str, t_lit, t_cmp, t_cmp2, t_cmp3, t_call, t_bi, t_var, t_and, t_or, t_not, andT_t, andT_f, orT_t, orT_f, notT_eq, v_add, v_sub, c_lt, c_le, c_gt, c_ge, c_eqI, c_neI, c_eqS, c_neS, c_isN, c_isnotN, c_isB, c_isnotB, x_tup, x_lstV, sl_lstV, sl_tup, b_lenT, b_lenV, decide_true, decide_false, Bool.not_true, Bool.not_false, b_isi (i_tup ty), isTup, bl, c2, x0, is, eq1, eq2, ne4, cu, foK_tup, forL_cons, foB_nm, ii2, ib2, ii3, ib3], .refl _ _⟩
                  | true =>
                    obtain ⟨i3, rfl⟩ : ∃ i, x3 = .int i := by cases x3 <;> first | exact ⟨_, rfl⟩ | cases e3
                    have ii3 : biV (.isi .int) [.int i3] h = some (.bl true, h) := rfl
                    have ib3 : biV (.isi .bool) [.int i3] h = some (.bl false, h) := rfl
                    have pv : plotV (n + 1) (.tup [.str sAgain, b, .int i2, .int i3]) = (decide (0 ≤ i2 ∧ i2 ≤ i3 ∧ i3 ≤ 4) && plotV n b) := by
                      rw [plotV_eq, if_neg w1, if_neg w2, if_pos rfl]
                    rw [pv]
                    have q1 : cmpV .le (.int 0) (.int i2) h = some (decide (0 ≤ i2)) := rfl
                    have q2 : cmpV .le (.int i2) (.int i3) h = some (decide (i2 ≤ i3)) := rfl
                    have q3 : cmpV .le (.int i3) (.int 4) h = some (decide (i3 ≤ 4)) := rfl
                    generalize hL : ((([CV.str sAgain, b, .int i2, .int i3].length : Nat)) : Int) = L at bl c2 len2 ne4
                    generalize hZ : [CV.str sAgain, b, .int i2, .int i3] = Z at *
                    by_cases z1 : 0 ≤ i2
                    · rw [decide_eq_true z1] at q1
                      by_cases z2 : i2 ≤ i3
                      · rw [decide_eq_true z2] at q2
                        by_cases z3 : i3 ≤ 4
                        · rw [decide_eq_true z3] at q3
                          rw [decide_eq_true (show 0 ≤ i2 ∧ i2 ≤ i3 ∧ i3 ≤ 4 from ⟨z1, z2, z3⟩), Bool.true_and]
                          obtain ⟨h', er, o⟩ := ih d h b tb (by omega) (by omega)
                          exact ⟨h', by simp only [b270, n270, run_eq, List.length_cons, List.length_nil, List.map_cons, List.map_nil, List.cons_append, List.nil_append, List.replicate, List.set_cons_zero, List.set_cons_succ, x_cons, x_nil, seqC_nx, seqC_rt, x_asg, asgK_nm, asgK_sub, retS_some, retH_some, sub1_eq, sub2_eq, x_expr, exK_eq, x_ret, retK_eq, x_retn, x_iff, iffK_t, iffK_f, x_fo, x_pas, x_par, runK_nx, runK_rt, bindE_some, bindL_some, bindO_some, bindI_some, bindB_some, liftB_some, retV_some, asB_bl, bin1_eq, e_bin, cmpK_eq, cmp1_eq, e_cmp, cmpR_t, cmpR_f, cmp2a_eq, e_cmp2, cmpR3_t, cmpR3_f, cmp3a_eq, e_cmp3, e_and, e_or, andK_t, andK_f, orK_t, orK_f, bOut_eq, notK_eq, e_not, negK_int, e_neg, iteK_t, iteK_f, e_ite, tupK2_eq, e_tup, lstK_eq, e_lst, e_dct0, ixK_eq, ix1_eq, e_ix, sl1_eq, sl2_eq, e_sl, e_rev, o_no, o_ex, oK_int, e_call, e_bi, e_me, s_nil, s_cons, consA_eq, consB_eq, e_lit, e_glob, e_var0, e_varS, e_comp, i_range1, i_range2, r2a_eq, i_val, vK_tup, vK_str, t_lit, t_cmp, t_cmp2, t_cmp3, t_call, t_bi, t_var, t_and, t_or, t_not, andT_t, andT_f, orT_t, orT_f, notT_eq, v_add, v_sub, c_lt, c_le, c_gt, c_ge, c_eqI, c_neI, c_eqS, c_neS, c_isN, c_isnotN, c_isB, c_isnotB, x_tup, x_lstV, sl_lstV, sl_tup, b_lenT, b_lenV, decide_true, decide_false, Bool.not_true, Bool.not_false, b_isi (i_tup ty), isTup, bl, c2, x0, is, eq1, eq2, ne4, cu, foK_tup, forL_cons, forL_nil, foB_nm, ii2, ib2, ii3, ib3, xx2, xx3, cmp3b_eq q1, cmp2b_eq q2, q3, x1, er], o⟩
                        · rw [decide_eq_false z3] at q3
                          rw [decide_eq_false (show ¬ (0 ≤ i2 ∧ i2 ≤ i3 ∧ i3 ≤ 4) from fun z => z3 z.2.2), Bool.false_and]
                          exact ⟨h, by simp only [b270, n270, run_eq, List.length_cons, List.length_nil, List.map_cons, List.map_nil, List.cons_append, List.nil_append, List.replicate, List.set_cons_zero, List.set_cons_succ, x_cons, x_nil, seqC_nx, seqC_rt, x_asg, asgK_nm, asgK_sub, retS_some, retH_some, sub1_eq, sub2_eq, x_expr, exK_eq, x_ret, retK_eq, x_retn, x_iff, iffK_t, iffK_f, x_fo, x_pas, x_par, runK_nx, runK_rt, bindE_some, bindL_some, bindO_some, bindI_some, bindB_some, liftB_some, retV_some, asB_bl, bin1_eq, e_bin, cmpK_eq, cmp1_eq, e_cmp, cmpR_t, cmpR_f, cmp2a_eq, e_cmp2, cmpR3_t, cmpR3_f, cmp3a_eq, e_cmp3, e_and, e_or, andK_t, andK_f, orK_t, orK_f, bOut_eq, notK_eq, e_not, negK_int, e_neg, iteK_t, iteK_f, e_ite, tupK2_eq, e_tup, lstK_eq, e_lst, e_dct0, ixK_eq, ix1_eq, e_ix, sl1_eq, sl2_eq, e_sl, e_rev, o_no, o_ex, oK_int, e_call, e_bi, e_me, s_nil, s_cons, consA_eq, consB_eq, e_lit, e_glob, e_var0, e_varS, e_comp, i_range1, i_range2, r2a_eq, i_val, vK_tup, vK_str, t_lit, t_cmp, t_cmp2, t_cmp3, t_call, t_bi, t_var, t_and, t_or, t_not, andT_t, andT_f, orT_t, orT_f, notT_eq, v_add, v_sub, c_lt, c_le, c_gt, c_ge, c_eqI, c_neI, c_eqS, c_neS, c_isN, c_isnotN, c_isB, c_isnotB, x_tup, x_lstV, sl_lstV, sl_tup, b_lenT, b_lenV, decide_true, decide_false, Bool.not_true, Bool.not_false, b_isi (i_tup ty), isTup, bl, c2, x0, is, eq1, eq2, ne4, cu, foK_tup, forL_cons, forL_nil, foB_nm, ii2, ib2, ii3, ib3, xx2, xx3, cmp3b_eq q1, cmp2b_eq q2, q3], .refl _ _⟩
                      · rw [decide_eq_false z2] at q2
                        rw [decide_eq_false (show ¬ (0 ≤ i2 ∧ i2 ≤ i3 ∧ i3 ≤ 4) from fun z => z2 z.2.1), Bool.false_and]
                        exact ⟨h, by simp only [b270, n270, run_eq, List.length_cons, List.length_nil, List.map_cons, List.map_nil, List.cons_append, List.nil_append, List.replicate, List.set_cons_zero, List.set_cons_succ, x_cons, x_nil, seqC_nx, seqC_rt, x_asg, asgK_nm, asgK_sub, retS_some, retH_some, sub1_eq, sub2_eq, x_expr, exK_eq, x_ret, retK_eq, x_retn, x_iff, iffK_t, iffK_f, x_fo, x_pas, x_par, runK_nx, runK_rt, bindE_some, bindL_some, bindO_some, bindI_some, bindB_some, liftB_some, retV_some, asB_bl, bin1_eq, e_bin, cmpK_eq, cmp1_eq, e_cmp, cmpR_t, cmpR_f, cmp2a_eq, e_cmp2, cmpR3_t, cmpR3_f, cmp3a_eq, e_cmp3, e_and, e_or, andK_t, andK_f, orK_t, orK_f, bOut_eq, notK_eq, e_not, negK_int, e_neg, iteK_t, iteK_f, e_ite, tupK2_eq, e_tup, lstK_eq, e_lst, e_dct0, ixK_eq, ix1_eq, e_ix, sl1_eq, sl2_eq, e_sl, e_rev, o_no, o_ex, oK_int, e_call, e_bi, e_me, s_nil, s_cons, consA_eq, consB_eq, e_lit, e_glob, e_var0, e_varS, e_comp, i_range1, i_range2, r2a_eq, i_val, vK_tup, vK_str, t_lit, t_cmp, t_cmp2, t_cmp3, t_call, t_bi, t_var, t_and, t_or, t_not, andT_t, andT_f, orT_t, orT_f, notT_eq, v_add, v_sub, c_lt, c_le, c_gt, c_ge, c_eqI, c_neI, c_eqS, c_neS, c_isN, c_isnotN, c_isB, c_isnotB, x_tup, x_lstV, sl_lstV, sl_tup, b_lenT, b_lenV, decide_true, decide_false, Bool.not_true, Bool.not_false, b_isi (i_tup ty), isTup, bl, c2, x0, is, eq1, eq2, ne4, cu, foK_tup, forL_cons, forL_nil, foB_nm, ii2, ib2, ii3, ib3, xx2, xx3, cmp3b_eq q1, cmp2b_eq q2], .refl _ _⟩
                    · rw [decide_eq_false z1] at q1
                      rw [decide_eq_false (show ¬ (0 ≤ i2 ∧ i2 ≤ i3 ∧ i3 ≤ 4) from fun z => z1 z.1), Bool.false_and]
                      exact ⟨h, by simp only [b270, n270, run_eq, List.length_cons, List.length_nil, List.map_cons, List.map_nil, List.cons_append, List.nil_append, List.replicate, List.set_cons_zero, List.set_cons_succ, x_cons, x_nil, seqC_nx, seqC_rt, x_asg, asgK_nm, asgK_sub, retS_some, retH_some, sub1_eq, sub2_eq, x_expr, exK_eq, x_ret, retK_eq, x_retn, x_iff, iffK_t, iffK_f, x_fo, x_pas, x_par, runK_nx, runK_rt, bindE_some, bindL_some, bindO_some, bindI_some, bindB_some, liftB_some, retV_some, asB_bl, bin1_eq, e_bin, cmpK_eq, cmp1_eq, e_cmp, cmpR_t, cmpR_f, cmp2a_eq, e_cmp2, cmpR3_t, cmpR3_f, cmp3a_eq, e_cmp3, e_and, e_or, andK_t, andK_f, orK_t, orK_f, bOut_eq, notK_eq, e_not, negK_int, e_neg, iteK_t, iteK_f, e_ite, tupK2_eq, e_tup, lstK_eq, e_lst, e_dct0, ixK_eq, ix1_eq, e_ix, sl1_eq, sl2_eq, e_sl, e_rev, o_no, o_ex, oK_int, e_call, e_bi, e_me, s_nil, s_cons, consA_eq, consB_eq, e_lit, e_glob, e_var0, e_varS, e_comp, i_range1, i_range2, r2a_eq, i_val, vK_tup, vK_str, t_lit, t_cmp, t_cmp2, t_cmp3, t_call, t_bi, t_var, t_and, t_or, t_not, andT_t, andT_f, orT_t, orT_f, notT_eq, v_add, v_sub, c_lt, c_le, c_gt, c_ge, c_eqI, c_neI, c_eqS, c_neS, c_isN, c_isnotN, c_isB, c_isnotB, x_tup, x_lstV, sl_lstV, sl_tup, b_lenT, b_lenV, decide_true, decide_false, Bool.not_true, Bool.not_false, b_isi (i_tup ty), isTup, bl, c2, x0, is, eq1, eq2, ne4, cu, foK_tup, forL_cons, forL_nil, foB_nm, ii2, ib2, ii3, ib3, xx2, xx3, cmp3b_eq q1], .refl _ _⟩
              | [], hl, hx =>
                have pv : plotV (n + 1) (.tup [.str sAgain, b]) = false := by rw [plotV_eq, if_neg w1, if_neg w2, if_pos rfl] <;> rfl
                rw [pv]
                rw [show decide (([] : List CV).length = 2) = false from rfl] at ne4
                generalize hL : ((([CV.str sAgain, b].length : Nat)) : Int) = L at bl c2 len2 ne4
                generalize hZ : [CV.str sAgain, b] = Z at *
                exact ⟨h, by simp only [b270, n270, run_eq, List.length_cons, List.length_nil, List.map_cons, List.map_nil, List.cons_append, List.nil_append, List.replicate, List.set_cons_zero, List.set_cons_succ, x_cons, x_nil, seqC_nx, seqC_rt, x_asg, asgK_nm, asgK_sub, retS_some, retH_some, sub1_eq, sub2_eq, x_expr, exK_eq, x_ret, retK_eq, x_retn, x_iff, iffK_t, iffK_f, x_fo, x_pas, x_par, runK_nx, runK_rt, bindE_some, bindL_some, bindO_some, bindI_some, bindB_some, liftB_some, retV_some, asB_bl, bin1_eq, e_bin, cmpK_eq, cmp1_eq, e_cmp, cmpR_t, cmpR_f, cmp2a_eq, e_cmp2, cmpR3_t, cmpR3_f, cmp3a_eq, e_cmp3, e_and, e_or, andK_t, andK_f, orK_t, orK_f, bOut_eq, notK_eq, e_not, negK_int, e_neg, iteK_t, iteK_f, e_ite, tupK2_eq, e_tup, lstK_eq, e_lst, e_dct0, ixK_eq, ix1_eq, e_ix, sl1_eq, sl2_eq, e_sl, e_rev, o_no, o_ex, oK_int, e_call, e_bi, e_me, s_nil, s_cons, consA_eq, consB_eq, e_lit, e_glob, e_var0, e_varS, e_comp, i_range1, i_range2, r2a_eq, i_val, vK_tup, vK_str, t_lit, t_cmp, t_cmp2, t_cmp3, t_call, t_bi, t_var, t_and, t_or, t_not, andT_t, andT_f, orT_t, orT_f, notT_eq, v_add, v_sub, c_lt, c_le, c_gt, c_ge, c_eqI, c_neI, c_eqS, c_neS, c_isN, c_isnotN, c_isB, c_isnotB, x_tup, x_lstV, sl_lstV, sl_tup, b_lenT, b_lenV, decide_true, decide_false, Bool.not_true, Bool.not_false, b_isi (i_tup ty), isTup, bl, c2, x0, is, eq1, eq2, ne4], .refl _ _⟩
              | [x2], hl, hx =>
                have pv : plotV (n + 1) (.tup [.str sAgain, b, x2]) = false := by rw [plotV_eq, if_neg w1, if_neg w2, if_pos rfl] <;> (cases x2 <;> rfl)
                rw [pv]
                rw [show decide ([x2].length = 2) = false from rfl] at ne4
                generalize hL : ((([CV.str sAgain, b, x2].length : Nat)) : Int) = L at bl c2 len2 ne4
                generalize hZ : [CV.str sAgain, b, x2] = Z at *
                exact ⟨h, by simp only [b270, n270, run_eq, List.length_cons, List.length_nil, List.map_cons, List.map_nil, List.cons_append, List.nil_append, List.replicate, List.set_cons_zero, List.set_cons_succ, x_cons, x_nil, seqC_nx, seqC_rt, x_asg, asgK_nm, asgK_sub, retS_some, retH_some, sub1_eq, sub2_eq, x_expr, exK_eq, x_ret, retK_eq, x_retn, x_iff, iffK_t, iffK_f, x_fo, x_pas, x_par, runK_nx, runK_rt, bindE_some, bindL_some, bindO_some, bindI_some, bindB_some, liftB_some, retV_some, asB_bl, bin1_eq, e_bin, cmpK_eq, cmp1_eq, e_cmp, cmpR_t, cmpR_f, cmp2a_eq, e_cmp2, cmpR3_t, cmpR3_f, cmp3a_eq, e_cmp3, e_and, e_or, andK_t, andK_f, orK_t, orK_f, bOut_eq, notK_eq, e_not, negK_int, e_neg, iteK_t, iteK_f, e_ite, tupK2_eq, e_tup, lstK_eq, e_lst, e_dct0, ixK_eq, ix1_eq, e_ix, sl1_eq, sl2_eq, e_sl, e_rev, o_no, o_ex, oK_int, e_call, e_bi, e_me, s_nil, s_cons, consA_eq, consB_eq, e_lit, e_glob, e_var0, e_varS, e_comp, i_range1, i_range2, r2a_eq, i_val, vK_tup, vK_str, t_lit, t_cmp, t_cmp2, t_cmp3, t_call, t_bi, t_var, t_and, t_or, t_not, andT_t, andT_f, orT_t, orT_f, notT_eq, v_add, v_sub, c_lt, c_le, c_gt, c_ge, c_eqI, c_neI, c_eqS, c_neS, c_isN, c_isnotN, c_isB, c_isnotB, x_tup, x_lstV, sl_lstV, sl_tup, b_lenT, b_lenV, decide_true, decide_false, Bool.not_true, Bool.not_false, b_isi (i_tup ty), isTup, bl, c2, x0, is, eq1, eq2, ne4], .refl _ _⟩
              | x2 :: x3 :: x4 :: rest, hl, hx =>
                have pv : plotV (n + 1) (.tup (.str sAgain :: b :: x2 :: x3 :: x4 :: rest)) = false := by rw [plotV_eq, if_neg w1, if_neg w2, if_pos rfl] <;> (cases x2 <;> first | rfl | (cases x3 <;> rfl))
                rw [pv]
                rw [decide_eq_false (show ¬ (x2 :: x3 :: x4 :: rest).length = 2 by simp)] at ne4
                generalize hL : (((CV.str sAgain :: b :: x2 :: x3 :: x4 :: rest).length : Nat) : Int) = L at bl c2 len2 ne4
                generalize hZ : CV.str sAgain :: b :: x2 :: x3 :: x4 :: rest = Z at *
                exact ⟨h, by simp only [b270, n270, run_eq, List.length_cons, List.length_nil, List.map_cons, List.map_nil, List.cons_append, List.nil_append, List.replicate, List.set_cons_zero, List.set_cons_succ, x_cons, x_nil, seqC_nx, seqC_rt, x_asg, asgK_nm, asgK_sub, retS_some, retH_some, sub1_eq, sub2_eq, x_expr, exK_eq, x_ret, retK_eq, x_retn, x_iff, iffK_t, iffK_f, x_fo, x_pas, x_par, runK_nx, runK_rt, bindE_some, bindL_some, bindO_some, bindI_some, bindB_some, liftB_some, retV_some, asB_bl, bin1_eq, e_bin, cmpK_eq, cmp1_eq, e_cmp, cmpR_t, cmpR_f, cmp2a_eq, e_cmp2, cmpR3_t, cmpR3_f, cmp3a_eq, e_cmp3, e_and, e_or, andK_t, andK_f, orK_t, orK_f, bOut_eq, notK_eq, e_not, negK_int, e_neg, iteK_t, iteK_f, e_ite, tupK2_eq, e_tup, lstK_eq, e_lst, e_dct0, ixK_eq, ix1_eq, e_ix, sl1_eq, sl2_eq, e_sl, e_rev, o_no, o_ex, oK_int, e_call, e_bi, e_me, s_nil, s_cons, consA_eq, consB_eq, e_lit, e_glob, e_var0, e_varS, e_comp, i_range1, i_range2, r2a_eq, i_val, vK_tup, vK_str, t_lit, t_cmp, t_cmp2, t_cmp3, t_call, t_bi, t_var, t_and, t_or, t_not, andT_t, andT_f, orT_t, orT_f, notT_eq, v_add, v_sub, c_lt, c_le, c_gt, c_ge, c_eqI, c_neI, c_eqS, c_neS, c_isN, c_isnotN, c_isB, c_isnotB, x_tup, x_lstV, sl_lstV, sl_tup, b_lenT, b_lenV, decide_true, decide_false, Bool.not_true, Bool.not_false, b_isi (i_tup ty), isTup, bl, c2, x0, is, eq1, eq2, ne4], .refl _ _⟩
            · rw [decide_eq_false w5] at eq2
              have o1 : Off [] h (h ++ [CO.lst [.str sThen, .str sOr]]) := Off.app _ _ _
              have ein : inV (h ++ [CO.lst [.str sThen, .str sOr]]) (.str w) (.ref h.length) = some (decide (w ∈ [sThen, sOr])) := in_strsL (ks := [sThen, sOr]) get_new
              have itb1 := itb _ o1
              have tb1 := tb.off o1
              by_cases w2 : w = sThen ∨ w = sOr
              · have pv : plotV (n + 1) (.tup (.str w :: b :: rest)) = (decide (rest = []) && partsV n b) := by
                  rw [plotV_eq, if_neg w1, if_pos w2]
                  cases rest with
                  | nil => cases b <;> first | rfl | (unfold partsV; simp)
                  | cons c rest => simp
                rw [pv]
                rw [decide_eq_true (show w ∈ [sThen, sOr] by simpa using w2)] at ein
                unfold sThen sOr at ein o1 itb1 tb1
                generalize hL : (((CV.str w :: b :: rest).length : Nat) : Int) = L at bl c2 len2 ne4
                cases rest with
                | cons c rest =>
                  rw [decide_eq_false (by simp)] at len2 ⊢
                  refine ⟨_, ?_, o1⟩
                  generalize hZ : CV.str w :: b :: c :: rest = Z at *
                  simp only [b270, n270, run_eq, List.length_cons, List.length_nil, List.map_cons, List.map_nil, List.cons_append, List.nil_append, List.replicate, List.set_cons_zero, List.set_cons_succ, x_cons, x_nil, seqC_nx, seqC_rt, x_asg, asgK_nm, asgK_sub, retS_some, retH_some, sub1_eq, sub2_eq, x_expr, exK_eq, x_ret, retK_eq, x_retn, x_iff, iffK_t, iffK_f, x_fo, x_pas, x_par, runK_nx, runK_rt, bindE_some, bindL_some, bindO_some, bindI_some, bindB_some, liftB_some, retV_some, asB_bl, bin1_eq, e_bin, cmpK_eq, cmp1_eq, e_cmp, cmpR_t, cmpR_f, cmp2a_eq, e_cmp2, cmpR3_t, cmpR3_f, cmp3a_eq, e_cmp3, e_and, e_or, andK_t, andK_f, orK_t, orK_f, bOut_eq, notK_eq, e_not, negK_int, e_neg, iteK_t, iteK_f, e_ite, tupK2_eq, e_tup, lstK_eq, e_lst, e_dct0, ixK_eq, ix1_eq, e_ix, sl1_eq, sl2_eq, e_sl, e_rev, o_no, o_ex, oK_int, e_call, e_bi, e_me, s_nil, s_cons, consA_eq, consB_eq, e_lit, e_glob, e_var0, e_varS, e_comp, i_range1, i_range2, r2a_eq, i_val, vK_tup, vK_str, t_lit, t_cmp, t_cmp2, t_cmp3, t_call, t_bi, t_var, t_and, t_or, t_not, andT_t, andT_f, orT_t, orT_f, notT_eq, v_add, v_sub, c_lt, c_le, c_gt, c_ge, c_eqI, c_neI, c_eqS, c_neS, c_isN, c_isnotN, c_isB, c_isnotB, x_tup, x_lstV, sl_lstV, sl_tup, b_lenT, b_lenV, decide_true, decide_false, Bool.not_true, Bool.not_false, b_isi (i_tup ty), isTup, bl, c2, x0, is, eq1, eq2, c_notin ein, len2, Bool.false_and]
                | nil =>
                  rw [decide_eq_true rfl] at len2 ⊢
                  rw [Bool.true_and]
                  cases eb : isTup b with
                  | false =>
                    rw [eb] at itb1
                    have : partsV n b = false := by cases b <;> first | rfl | cases eb
                    rw [this]
                    refine ⟨_, ?_, o1⟩
                    generalize hZ : [CV.str w, b] = Z at *
                    simp only [b270, n270, run_eq, List.length_cons, List.length_nil, List.map_cons, List.map_nil, List.cons_append, List.nil_append, List.replicate, List.set_cons_zero, List.set_cons_succ, x_cons, x_nil, seqC_nx, seqC_rt, x_asg, asgK_nm, asgK_sub, retS_some, retH_some, sub1_eq, sub2_eq, x_expr, exK_eq, x_ret, retK_eq, x_retn, x_iff, iffK_t, iffK_f, x_fo, x_pas, x_par, runK_nx, runK_rt, bindE_some, bindL_some, bindO_some, bindI_some, bindB_some, liftB_some, retV_some, asB_bl, bin1_eq, e_bin, cmpK_eq, cmp1_eq, e_cmp, cmpR_t, cmpR_f, cmp2a_eq, e_cmp2, cmpR3_t, cmpR3_f, cmp3a_eq, e_cmp3, e_and, e_or, andK_t, andK_f, orK_t, orK_f, bOut_eq, notK_eq, e_not, negK_int, e_neg, iteK_t, iteK_f, e_ite, tupK2_eq, e_tup, lstK_eq, e_lst, e_dct0, ixK_eq, ix1_eq, e_ix, sl1_eq, sl2_eq, e_sl, e_rev, o_no, o_ex, oK_int, e_call, e_bi, e_me, s_nil, s_cons, consA_eq, consB_eq, e_lit, e_glob, e_var0, e_varS, e_comp, i_range1, i_range2, r2a_eq, i_val, vK_tup, vK_str, t_lit, t_cmp, t_cmp2, t_cmp3, t_call, t_bi, t_var, t_and, t_or, t_not, andT_t, andT_f, orT_t, orT_f, notT_eq, v_add, v_sub, c_lt, c_le, c_gt, c_ge, c_eqI, c_neI, c_eqS, c_neS, c_isN, c_isnotN, c_isB, c_isnotB, x_tup, x_lstV, sl_lstV, sl_tup, b_lenT, b_lenV, decide_true, decide_false, Bool.not_true, Bool.not_false, b_isi (i_tup ty), isTup, bl, c2, x0, is, eq1, eq2, c_notin ein, len2, x1, itb1]
                  | true =>
                    rw [eb] at itb1
                    obtain ⟨ps, rfl⟩ : ∃ ys, b = .tup ys := by cases b <;> first | exact ⟨_, rfl⟩ | cases eb
                    have eu := eq_unit tb1 (by omega)
                    have pp : partsV n (.tup ps) = (!ps.isEmpty && ps.all (plotV n)) := rfl
                    rw [pp]
                    cases he : ps.isEmpty with
                    | true =>
                      rw [he] at eu
                      refine ⟨_, ?_, o1⟩
                      generalize hZ : [CV.str w, .tup ps] = Z at *
                      simp only [b270, n270, run_eq, List.length_cons, List.length_nil, List.map_cons, List.map_nil, List.cons_append, List.nil_append, List.replicate, List.set_cons_zero, List.set_cons_succ, x_cons, x_nil, seqC_nx, seqC_rt, x_asg, asgK_nm, asgK_sub, retS_some, retH_some, sub1_eq, sub2_eq, x_expr, exK_eq, x_ret, retK_eq, x_retn, x_iff, iffK_t, iffK_f, x_fo, x_pas, x_par, runK_nx, runK_rt, bindE_some, bindL_some, bindO_some, bindI_some, bindB_some, liftB_some, retV_some, asB_bl, bin1_eq, e_bin, cmpK_eq, cmp1_eq, e_cmp, cmpR_t, cmpR_f, cmp2a_eq, e_cmp2, cmpR3_t, cmpR3_f, cmp3a_eq, e_cmp3, e_and, e_or, andK_t, andK_f, orK_t, orK_f, bOut_eq, notK_eq, e_not, negK_int, e_neg, iteK_t, iteK_f, e_ite, tupK2_eq, e_tup, lstK_eq, e_lst, e_dct0, ixK_eq, ix1_eq, e_ix, sl1_eq, sl2_eq, e_sl, e_rev, o_no, o_ex, oK_int, e_call, e_bi, e_me, s_nil, s_cons, consA_eq, consB_eq, e_lit, e_glob, e_var0, e_varS, e_comp, i_range1, i_range2, r2a_eq, i_val, vK_tup, vK_str, t_lit, t_cmp, t_cmp2, t_cmp3, t_call, t_bi, t_var, t_and, t_or, t_not, andT_t, andT_f, orT_t, orT_f, notT_eq, v_add, v_sub, c_lt, c_le, c_gt, c_ge, c_eqI, c_neI, c_eqS, c_neS, c_isN, c_isnotN, c_isB, c_isnotB, x_tup, x_lstV, sl_lstV, sl_tup, b_lenT, b_lenV, decide_true, decide_false, Bool.not_true, Bool.not_false, b_isi (i_tup ty), isTup, bl, c2, x0, is, eq1, eq2, c_notin ein, len2, x1, itb1, eu, Bool.false_and]
                    | false =>
                      rw [he] at eu
                      obtain ⟨lb, mb⟩ := tb1.items
                      obtain ⟨h', ec, ea', o⟩ := all_step (F := recF F W bsL d) (s := [some (.tup [CV.str w, .tup ps]), none, none, none]) (f := 270) (i := 3) (h := h ++ [CO.lst [.str [116, 104, 101, 110], .str [111, 114]]]) (xs := ps) (plotV n) lb (fun x => rfl) (fun x hx' h' o => ih d h' x ((mb x hx').off o) (by omega) (by omega))
                      refine ⟨_, ?_, o1.trans o⟩
                      generalize hZ : [CV.str w, .tup ps] = Z at *
                      simp only [b270, n270, run_eq, List.length_cons, List.length_nil, List.map_cons, List.map_nil, List.cons_append, List.nil_append, List.replicate, List.set_cons_zero, List.set_cons_succ, x_cons, x_nil, seqC_nx, seqC_rt, x_asg, asgK_nm, asgK_sub, retS_some, retH_some, sub1_eq, sub2_eq, x_expr, exK_eq, x_ret, retK_eq, x_retn, x_iff, iffK_t, iffK_f, x_fo, x_pas, x_par, runK_nx, runK_rt, bindE_some, bindL_some, bindO_some, bindI_some, bindB_some, liftB_some, retV_some, asB_bl, bin1_eq, e_bin, cmpK_eq, cmp1_eq, e_cmp, cmpR_t, cmpR_f, cmp2a_eq, e_cmp2, cmpR3_t, cmpR3_f, cmp3a_eq, e_cmp3, e_and, e_or, andK_t, andK_f, orK_t, orK_f, bOut_eq, notK_eq, e_not, negK_int, e_neg, iteK_t, iteK_f, e_ite, tupK2_eq, e_tup, lstK_eq, e_lst, e_dct0, ixK_eq, ix1_eq, e_ix, sl1_eq, sl2_eq, e_sl, e_rev, o_no, o_ex, oK_int, e_call, e_bi, e_me, s_nil, s_cons, consA_eq, consB_eq, e_lit, e_glob, e_var0, e_varS, e_comp, i_range1, i_range2, r2a_eq, i_val, vK_tup, vK_str, t_lit, t_cmp, t_cmp2, t_cmp3, t_call, t_bi, t_var, t_and, t_or, t_not, andT_t, andT_f, orT_t, orT_f, notT_eq, v_add, v_sub, c_lt, c_le, c_gt, c_ge, c_eqI, c_neI, c_eqS, c_neS, c_isN, c_isnotN, c_isB, c_isnotB, x_tup, x_lstV, sl_lstV, sl_tup, b_lenT, b_lenV, decide_true, decide_false, Bool.not_true, Bool.not_false, b_isi (i_tup ty), isTup, bl, c2, x0, is, eq1, eq2, c_notin ein, len2, x1, itb1, eu, ec, ea', Bool.true_and]
              · rw [plot_other w1 w2 w5]
                rw [decide_eq_false (show ¬ w ∈ [sThen, sOr] by simpa using w2)] at ein
                unfold sThen sOr at ein o1
                refine ⟨_, ?_, o1⟩
                generalize hL : (((CV.str w :: b :: rest).length : Nat) : Int) = L at bl c2 len2 ne4
                generalize hZ : CV.str w :: b :: rest = Z at *
                simp only [b270, n270, run_eq, List.length_cons, List.length_nil, List.map_cons, List.map_nil, List.cons_append, List.nil_append, List.replicate, List.set_cons_zero, List.set_cons_succ, x_cons, x_nil, seqC_nx, seqC_rt, x_asg, asgK_nm, asgK_sub, retS_some, retH_some, sub1_eq, sub2_eq, x_expr, exK_eq, x_ret, retK_eq, x_retn, x_iff, iffK_t, iffK_f, x_fo, x_pas, x_par, runK_nx, runK_rt, bindE_some, bindL_some, bindO_some, bindI_some, bindB_some, liftB_some, retV_some, asB_bl, bin1_eq, e_bin, cmpK_eq, cmp1_eq, e_cmp, cmpR_t, cmpR_f, cmp2a_eq, e_cmp2, cmpR3_t, cmpR3_f, cmp3a_eq, e_cmp3, e_and, e_or, andK_t, andK_f, orK_t, orK_f, bOut_eq, notK_eq, e_not, negK_int, e_neg, iteK_t, iteK_f, e_ite, tupK2_eq, e_tup, lstK_eq, e_lst, e_dct0, ixK_eq, ix1_eq, e_ix, sl1_eq, sl2_eq, e_sl, e_rev, o_no, o_ex, oK_int, e_call, e_bi, e_me, s_nil, s_cons, consA_eq, consB_eq, e_lit, e_glob, e_var0, e_varS, e_comp, i_range1, i_range2, r2a_eq, i_val, vK_tup, vK_str, t_lit, t_cmp, t_cmp2, t_cmp3, t_call, t_bi, t_var, t_and, t_or, t_not, andT_t, andT_f, orT_t, orT_f, notT_eq, v_add, v_sub, c_lt, c_le, c_gt, c_ge, c_eqI, c_neI, c_eqS, c_neS, c_isN, c_isnotN, c_isB, c_isnotB, x_tup, x_lstV, sl_lstV, sl_tup, b_lenT, b_lenV, decide_true, decide_false, Bool.not_true, Bool.not_false, b_isi (i_tup ty), isTup, bl, c2, x0, is, eq1, eq2, c_notin ein]
end TH

/-! Deeds, rows of k26 and k27 (265, 266). -/
namespace TH
open PySem
def wds3 : List (List Nat) := [[120], [103, 111], [97, 98, 99, 100, 101, 102, 103, 104]]
theorem wds3_nm {k : List Nat} (h : k ∈ wds3) : Nm k := by
  simp only [wds3, List.mem_cons, List.not_mem_nil, or_false] at h
  rcases h with rfl | rfl | rfl <;> (refine ⟨by decide, by decide, ?_⟩; decide)
theorem run_ldeed265 (F : Fns) (W : Nat) (hT : Takes F) {h : CH} {p r : Nat} {ks : List (List Nat)} (q : Pk h p) (gr : h[r]? = some (.lst (ks.map .str))) (hrp : r ≠ p) (h2 : 2 ≤ ks.length) (hl : ks.length ≤ 1000) (nd : ks.Nodup) (hn : ∀ k ∈ ks, Nm k) :
    ∃ (d : Dd) (h' : CH), runC F W n265.length b265 [.ref p, .ref r] h = some (d.cv, h') ∧ d.ok ∧ Off [p] h h' ∧ Pk h' p := by
  have lp := q.lt
  have lr := lt_of gr
  have o0 : Off [] h (h ++ [CO.lst ([kSend, kTake].map CV.str)]) := Off.app _ _ _
  have q0 := q.keep o0 (by simp)
  obtain ⟨i, h1, e1, i0, i1, o1, q1⟩ := hT _ p 2 q0 (by decide) (by decide)
  have g1 := o1.get (get_new (h := h) (o := CO.lst ([kSend, kTake].map CV.str))) (by simp; omega)
  obtain ⟨k, ek, hk⟩ := strs_at (ks := [kSend, kTake]) i0 (by simpa using i1)
  obtain ⟨s, rfl⟩ : ∃ s : Bool, k = kd s := by
    simp only [List.mem_cons, List.not_mem_nil, or_false] at hk
    rcases hk with rfl | rfl
    · exact ⟨true, rfl⟩
    · exact ⟨false, rfl⟩
  have gr1 := o1.get (o0.get gr (by simp)) (by simpa using hrp)
  obtain ⟨a, h2', e2, a0, a1, o2, q2⟩ := hT h1 p (ks.length : Int) q1 (by omega) (by omega)
  obtain ⟨b, h3, e3, b0, b1, o3, q3⟩ := hT h2' p ((ks.length : Int) - 1) q2 (by omega) (by omega)
  have gr2 := o2.get gr1 (by simpa using hrp)
  have gr3 := o3.get gr2 (by simpa using hrp)
  have l1 := b_lenL gr1
  have l2 := b_lenL gr2
  have l3 := b_lenL gr3
  rw [List.length_map] at l1 l2 l3
  obtain ⟨an, rfl⟩ : ∃ n : Nat, a = (n : Int) := ⟨a.toNat, by omega⟩
  obtain ⟨bn, rfl⟩ : ∃ n : Nat, b = (n : Int) := ⟨b.toNat, by omega⟩
  have ht : (((an : Int) + 1 + (bn : Int)) % (ks.length : Int)) = (((an + 1 + bn) % ks.length : Nat) : Int) := by rw [Int.natCast_emod, Int.natCast_add, Int.natCast_add]; rfl
  have hlt : (an + 1 + bn) % ks.length < ks.length := Nat.mod_lt _ (by omega)
  have hne : an ≠ (an + 1 + bn) % ks.length := by
    by_cases hz : an + 1 + bn < ks.length
    · rw [Nat.mod_eq_of_lt hz]; omega
    · rw [Nat.mod_eq_sub_mod (by omega), Nat.mod_eq_of_lt (by omega)]; omega
  have hm := v_mod (i := (an : Int) + 1 + (bn : Int)) (j := (ks.length : Int)) (h := h3) (by omega)
  rw [ht] at hm
  generalize hto : (an + 1 + bn) % ks.length = tn at hm hlt hne
  have xa : atI (ks.map CV.str) (an : Int) = some (.str (ks[an]'(by omega))) := by rw [atI_nat, List.getElem?_map, List.getElem?_eq_getElem (by omega)]; rfl
  have xb : atI (ks.map CV.str) (tn : Int) = some (.str (ks[tn]'hlt)) := by rw [atI_nat, List.getElem?_map, List.getElem?_eq_getElem hlt]; rfl
  have na := hn _ (List.getElem_mem (h := (by omega : an < ks.length)))
  have nb := hn _ (List.getElem_mem (h := hlt))
  have hab : ks[an]'(by omega) ≠ ks[tn]'hlt := fun e => hne ((List.getElem_inj nd).mp e)
  generalize ks[an]'(by omega) = A at xa na hab
  generalize ks[tn]'hlt = B at xb nb hab
  have o4 : Off [] h3 (h3 ++ [CO.lst (wds3.map CV.str)]) := Off.app _ _ _
  have q4 := q3.keep o4 (by simp)
  obtain ⟨c, h5, e5, c0, c1, o5, q5⟩ := hT _ p 3 q4 (by decide) (by decide)
  have lp3 := q3.lt
  have g5 := o5.get (get_new (h := h3) (o := CO.lst (wds3.map CV.str))) (by simp; omega)
  obtain ⟨C, eC, hC⟩ := strs_at (ks := wds3) c0 (by simpa [wds3] using c1)
  refine ⟨⟨s, A, B, C⟩, h5, ?_, ⟨na, nb, wds3_nm hC, hab⟩, (o0.mono (by simp)).trans (o1.trans (o2.trans (o3.trans ((o4.mono (by simp)).trans o5)))), q5⟩
  have hcv : Dd.cv ⟨s, A, B, C⟩ = .tup [.str (kd s), .str A, .str B, .str C] := rfl
  rw [hcv]
  have hw : wds3.map CV.str = [.str [120], .str [103, 111], .str [97, 98, 99, 100, 101, 102, 103, 104]] := rfl
  have hw2 : [kSend, kTake].map CV.str = [.str [115, 101, 110, 100], .str [116, 97, 107, 101]] := rfl
  rw [hw] at e5 g5 eC
  rw [hw2] at e1 g1 ek
  simp only [b265, n265, run_eq, List.length_cons, List.length_nil, List.map_cons, List.map_nil, List.cons_append, List.nil_append, List.replicate, List.set_cons_zero, List.set_cons_succ, x_cons, x_nil, seqC_nx, seqC_rt, x_asg, asgK_nm, asgK_sub, retS_some, retH_some, sub1_eq, sub2_eq, x_expr, exK_eq, x_ret, retK_eq, x_retn, x_iff, iffK_t, iffK_f, x_fo, x_pas, x_par, runK_nx, runK_rt, bindE_some, bindL_some, bindO_some, bindI_some, bindB_some, liftB_some, retV_some, asB_bl, bin1_eq, e_bin, cmpK_eq, cmp1_eq, e_cmp, cmpR_t, cmpR_f, cmp2a_eq, e_cmp2, cmpR3_t, cmpR3_f, cmp3a_eq, e_cmp3, e_and, e_or, andK_t, andK_f, orK_t, orK_f, bOut_eq, notK_eq, e_not, negK_int, e_neg, iteK_t, iteK_f, e_ite, tupK2_eq, e_tup, lstK_eq, e_lst, e_dct0, ixK_eq, ix1_eq, e_ix, sl1_eq, sl2_eq, e_sl, e_rev, o_no, o_ex, oK_int, e_call, e_bi, e_me, s_nil, s_cons, consA_eq, consB_eq, e_lit, e_glob, e_var0, e_varS, e_comp, i_range1, i_range2, r2a_eq, i_val, vK_tup, vK_str, t_lit, t_cmp, t_cmp2, t_cmp3, t_call, t_bi, t_var, t_and, t_or, t_not, andT_t, andT_f, orT_t, orT_f, notT_eq, v_add, v_sub, c_lt, c_le, c_gt, c_ge, c_eqI, c_neI, c_eqS, c_neS, c_isN, c_isnotN, c_isB, c_isnotB, x_tup, x_lstV, sl_lstV, sl_tup, b_lenT, b_lenV, decide_true, decide_false, Bool.not_true, Bool.not_false, e1, x_lst g1, ek, l1, e2, l2, e3, l3, hm, x_lst gr3, xa, xb, e5, x_lst g5, eC]
abbrev D265 (F : Fns) : Prop := ∀ (h : CH) (p r : Nat) (ks : List (List Nat)), Pk h p → h[r]? = some (.lst (ks.map .str)) → r ≠ p → 2 ≤ ks.length → ks.length ≤ 1000 → ks.Nodup → (∀ k ∈ ks, Nm k) → ∃ (d : Dd) (h' : CH), F 265 [.ref p, .ref r] h = some (d.cv, h') ∧ d.ok ∧ Off [p] h h' ∧ Pk h' p
theorem dd_x0 {d : Dd} {h : CH} : ixV d.cv (.int 0) h = some (.str (kd d.s)) := rfl
theorem dd_sl {d : Dd} {h : CH} : slV d.cv (some 1) none h = some (.tup [.str d.a, .str d.b, .str d.c], h) := rfl
theorem tk_cv {d : Dd} {h : CH} : binV .add (.tup [.str [116, 97, 107, 101]]) (.tup [.str d.a, .str d.b, .str d.c]) h = some (d.tk.cv, h) := by
  rw [v_addT (lim_big (by simp))]; rfl
def in266 : CSs := (.cons (.asg (.nm 5) (.call 265 (.cons (.var 0) (.cons (.var 1) .nil)))) (.cons (.expr (.me .append (.var 3) (.cons (.var 5) .nil))) (.cons (.iff (.and (.cmp .eq (.ix (.var 5) (.lit (.int 0))) (.lit (.str [115, 101, 110, 100]))) (.cmp .eq (.call 93 (.cons (.var 0) (.cons (.lit (.int 3)) .nil))) (.lit (.int 0)))) (.cons (.expr (.me .append (.var 3) (.cons (.bin .add (.tup (.cons (.lit (.str [116, 97, 107, 101])) .nil)) (.sl (.var 5) (.ex (.lit (.int 1))) .no)) .nil))) .nil) .nil) .nil)))
theorem in266_ev (F : Fns) (W : Nat) (hT : Takes F) (hD : D265 F) {h : CH} {p r g : Nat} {ks : List (List Nat)} {ds : List Dd} {x2 x4 x5 : Option CV} (q : Pk h p) (gr : h[r]? = some (.lst (ks.map .str))) (hg : h[g]? = some (.lst (ds.map Dd.cv))) (hrp : r ≠ p) (hgp : g ≠ p) (hgr : r ≠ g) (h2 : 2 ≤ ks.length) (hl : ks.length ≤ 1000) (nd : ks.Nodup) (hn : ∀ k ∈ ks, Nm k) (hld : ds.length ≤ 1000) (hok : ∀ d ∈ ds, d.ok) :
    ∃ (es : List Dd) (y5 : Option CV) (h' : CH), execCs F W in266 [some (.ref p), some (.ref r), x2, some (.ref g), x4, x5] h = some (.nx, [some (.ref p), some (.ref r), x2, some (.ref g), x4, y5], h') ∧ h'[g]? = some (.lst (es.map Dd.cv)) ∧ (∀ d ∈ es, d.ok) ∧ es.length ≤ ds.length + 2 ∧ Off [g, p] h h' ∧ Pk h' p := by
  obtain ⟨d, h1, e1, ok1, o1, q1⟩ := hD h p r ks q gr hrp h2 hl nd hn
  have g1 := o1.get hg (by simpa using hgp)
  have lg := lt_of hg
  have mm := m_append (v := d.cv) g1 (lim_lt (by rw [List.length_map]; omega))
  have rr := r_append g1
  have z : ds.map Dd.cv ++ [d.cv] = (ds ++ [d]).map Dd.cv := by rw [List.map_append]; rfl
  rw [z] at mm
  have q2 := q1.keep (Off.set (S := [g]) (h := h1) (i := g) (o := CO.lst ((ds ++ [d]).map Dd.cv)) (by simp)) (by simpa using hgp.symm)
  have o2 : Off [g, p] h1 (h1.set g (.lst ((ds ++ [d]).map Dd.cv))) := Off.set (by simp)
  have g2 : (h1.set g (.lst ((ds ++ [d]).map Dd.cv)))[g]? = some (.lst ((ds ++ [d]).map Dd.cv)) := List.getElem?_set_self (lt_of g1)
  have hok2 : ∀ x ∈ ds ++ [d], x.ok := fun x hx => by
    rcases List.mem_append.mp hx with h | h
    · exact hok x h
    · rw [List.mem_singleton.mp h]; exact ok1
  have oo := (o1.mono (T := [g, p]) (by simp)).trans o2
  have ks' := kd_send (s := d.s)
  cases hs : d.s with
  | false =>
    rw [hs] at ks'
    refine ⟨ds ++ [d], some d.cv, _, ?_, g2, hok2, by simp, oo, q2⟩
    have k0 : cmpV .eq (.str (kd d.s)) (.str [115, 101, 110, 100]) (h1.set g (.lst ((ds ++ [d]).map Dd.cv))) = some false := by rw [c_eqS, hs, ks']
    simp only [in266, run_eq, List.length_cons, List.length_nil, List.map_cons, List.map_nil, List.cons_append, List.nil_append, List.replicate, List.set_cons_zero, List.set_cons_succ, x_cons, x_nil, seqC_nx, seqC_rt, x_asg, asgK_nm, asgK_sub, retS_some, retH_some, sub1_eq, sub2_eq, x_expr, exK_eq, x_ret, retK_eq, x_retn, x_iff, iffK_t, iffK_f, x_fo, x_pas, x_par, runK_nx, runK_rt, bindE_some, bindL_some, bindO_some, bindI_some, bindB_some, liftB_some, retV_some, asB_bl, bin1_eq, e_bin, cmpK_eq, cmp1_eq, e_cmp, cmpR_t, cmpR_f, cmp2a_eq, e_cmp2, cmpR3_t, cmpR3_f, cmp3a_eq, e_cmp3, e_and, e_or, andK_t, andK_f, orK_t, orK_f, bOut_eq, notK_eq, e_not, negK_int, e_neg, iteK_t, iteK_f, e_ite, tupK2_eq, e_tup, lstK_eq, e_lst, e_dct0, ixK_eq, ix1_eq, e_ix, sl1_eq, sl2_eq, e_sl, e_rev, o_no, o_ex, oK_int, e_call, e_bi, e_me, s_nil, s_cons, consA_eq, consB_eq, e_lit, e_glob, e_var0, e_varS, e_comp, i_range1, i_range2, r2a_eq, i_val, vK_tup, vK_str, t_lit, t_cmp, t_cmp2, t_cmp3, t_call, t_bi, t_var, t_and, t_or, t_not, andT_t, andT_f, orT_t, orT_f, notT_eq, v_add, v_sub, c_lt, c_le, c_gt, c_ge, c_eqI, c_neI, c_eqS, c_neS, c_isN, c_isnotN, c_isB, c_isnotB, x_tup, x_lstV, sl_lstV, sl_tup, b_lenT, b_lenV, decide_true, decide_false, Bool.not_true, Bool.not_false, e1, me1_eq rr, mm, dd_x0, k0]
  | true =>
    rw [hs] at ks'
    have k0 : cmpV .eq (.str (kd d.s)) (.str [115, 101, 110, 100]) (h1.set g (.lst ((ds ++ [d]).map Dd.cv))) = some true := by rw [c_eqS, hs, ks']
    obtain ⟨n, h3, e3, n0, n1, o3, q3⟩ := hT _ p 3 q2 (by decide) (by decide)
    have g3 := o3.get g2 (by simpa using hgp)
    by_cases hz : n = 0
    · subst hz
      have mm3 := m_append (v := d.tk.cv) g3 (lim_lt (by rw [List.length_map, List.length_append, List.length_singleton]; omega))
      have rr3 := r_append g3
      have z3 : (ds ++ [d]).map Dd.cv ++ [d.tk.cv] = (ds ++ [d] ++ [d.tk]).map Dd.cv := by rw [List.map_append (l₁ := ds ++ [d])]; rfl
      rw [z3] at mm3
      refine ⟨ds ++ [d] ++ [d.tk], some d.cv, h3.set g (.lst ((ds ++ [d] ++ [d.tk]).map Dd.cv)), ?_, List.getElem?_set_self (lt_of g3), fun x hx => ?_, by simp, oo.trans ((o3.mono (by simp)).trans (Off.set (by simp))), q3.keep (Off.set (S := [g]) (h := h3) (i := g) (by simp)) (by simpa using hgp.symm)⟩
      · simp only [in266, run_eq, List.length_cons, List.length_nil, List.map_cons, List.map_nil, List.cons_append, List.nil_append, List.replicate, List.set_cons_zero, List.set_cons_succ, x_cons, x_nil, seqC_nx, seqC_rt, x_asg, asgK_nm, asgK_sub, retS_some, retH_some, sub1_eq, sub2_eq, x_expr, exK_eq, x_ret, retK_eq, x_retn, x_iff, iffK_t, iffK_f, x_fo, x_pas, x_par, runK_nx, runK_rt, bindE_some, bindL_some, bindO_some, bindI_some, bindB_some, liftB_some, retV_some, asB_bl, bin1_eq, e_bin, cmpK_eq, cmp1_eq, e_cmp, cmpR_t, cmpR_f, cmp2a_eq, e_cmp2, cmpR3_t, cmpR3_f, cmp3a_eq, e_cmp3, e_and, e_or, andK_t, andK_f, orK_t, orK_f, bOut_eq, notK_eq, e_not, negK_int, e_neg, iteK_t, iteK_f, e_ite, tupK2_eq, e_tup, lstK_eq, e_lst, e_dct0, ixK_eq, ix1_eq, e_ix, sl1_eq, sl2_eq, e_sl, e_rev, o_no, o_ex, oK_int, e_call, e_bi, e_me, s_nil, s_cons, consA_eq, consB_eq, e_lit, e_glob, e_var0, e_varS, e_comp, i_range1, i_range2, r2a_eq, i_val, vK_tup, vK_str, t_lit, t_cmp, t_cmp2, t_cmp3, t_call, t_bi, t_var, t_and, t_or, t_not, andT_t, andT_f, orT_t, orT_f, notT_eq, v_add, v_sub, c_lt, c_le, c_gt, c_ge, c_eqI, c_neI, c_eqS, c_neS, c_isN, c_isnotN, c_isB, c_isnotB, x_tup, x_lstV, sl_lstV, sl_tup, b_lenT, b_lenV, decide_true, decide_false, Bool.not_true, Bool.not_false, e1, me1_eq rr, mm, dd_x0, k0, e3, dd_sl, tk_cv, me1_eq rr3, mm3]
      · rcases List.mem_append.mp hx with h | h
        · exact hok2 x h
        · rw [List.mem_singleton.mp h]; exact ok1
    · refine ⟨ds ++ [d], some d.cv, h3, ?_, g3, hok2, by simp, oo.trans (o3.mono (by simp)), q3⟩
      simp only [in266, run_eq, List.length_cons, List.length_nil, List.map_cons, List.map_nil, List.cons_append, List.nil_append, List.replicate, List.set_cons_zero, List.set_cons_succ, x_cons, x_nil, seqC_nx, seqC_rt, x_asg, asgK_nm, asgK_sub, retS_some, retH_some, sub1_eq, sub2_eq, x_expr, exK_eq, x_ret, retK_eq, x_retn, x_iff, iffK_t, iffK_f, x_fo, x_pas, x_par, runK_nx, runK_rt, bindE_some, bindL_some, bindO_some, bindI_some, bindB_some, liftB_some, retV_some, asB_bl, bin1_eq, e_bin, cmpK_eq, cmp1_eq, e_cmp, cmpR_t, cmpR_f, cmp2a_eq, e_cmp2, cmpR3_t, cmpR3_f, cmp3a_eq, e_cmp3, e_and, e_or, andK_t, andK_f, orK_t, orK_f, bOut_eq, notK_eq, e_not, negK_int, e_neg, iteK_t, iteK_f, e_ite, tupK2_eq, e_tup, lstK_eq, e_lst, e_dct0, ixK_eq, ix1_eq, e_ix, sl1_eq, sl2_eq, e_sl, e_rev, o_no, o_ex, oK_int, e_call, e_bi, e_me, s_nil, s_cons, consA_eq, consB_eq, e_lit, e_glob, e_var0, e_varS, e_comp, i_range1, i_range2, r2a_eq, i_val, vK_tup, vK_str, t_lit, t_cmp, t_cmp2, t_cmp3, t_call, t_bi, t_var, t_and, t_or, t_not, andT_t, andT_f, orT_t, orT_f, notT_eq, v_add, v_sub, c_lt, c_le, c_gt, c_ge, c_eqI, c_neI, c_eqS, c_neS, c_isN, c_isnotN, c_isB, c_isnotB, x_tup, x_lstV, sl_lstV, sl_tup, b_lenT, b_lenV, decide_true, decide_false, Bool.not_true, Bool.not_false, e1, me1_eq rr, mm, dd_x0, k0, e3, hz]
/-- 266 -/
theorem run_lrow266 (F : Fns) (W : Nat) (hT : Takes F) (hD : D265 F)
    {h : CH} {p r m : Nat} {ks : List (List Nat)} (q : Pk h p) (gr : h[r]? = some (.lst (ks.map .str))) (hrp : r ≠ p) (h2 : 2 ≤ ks.length) (hl : ks.length ≤ 1000) (nd : ks.Nodup) (hn : ∀ k ∈ ks, Nm k) (hm : m ≤ 100) :
    ∃ (ds : List Dd) (h' : CH), runC F W n266.length b266 [.ref p, .ref r, .int (m : Int)] h = some (.tup (ds.map Dd.cv), h') ∧ (∀ d ∈ ds, d.ok) ∧ ds.length ≤ 2 * m ∧ Off [p] h h' ∧ Pk h' p := by
  have lp := q.lt
  have lr := lt_of gr
  have o0 : Off [] h (h ++ [CO.lst []]) := Off.app _ _ _
  have q0 := q.keep o0 (by simp)
  have g0 := o0.get gr (by simp)
  obtain ⟨n, h1, e1, n0, n1, o1, q1⟩ := hT _ p ((m : Int) + 1) q0 (by omega) (by omega)
  obtain ⟨n, rfl⟩ : ∃ k : Nat, n = (k : Int) := ⟨n.toNat, by omega⟩
  have sm : small62 (n : Int) = true := by unfold small62; simp only [Bool.and_eq_true, decide_eq_true_eq]; omega
  have gf := o1.get (get_new (h := h) (o := CO.lst [])) (by simp; omega)
  have gr1 := o1.get g0 (by simpa using hrp)
  obtain ⟨s', h', ef, ds, u, v, rfl, gd, ok, ld, od, qd⟩ := foK_inv (F := F) (W := W) (t := .nm 4) (b := in266) (src := .ints 0 n) (s := [some (.ref p), some (.ref r), some (.int (m : Int)), some (.ref h.length), none, none]) (h := h1)
    (fun j s hh => ∃ (ds : List Dd) (u v : Option CV), s = [some (.ref p), some (.ref r), some (.int (m : Int)), some (.ref h.length), u, v] ∧ hh[h.length]? = some (.lst (ds.map Dd.cv)) ∧ (∀ d ∈ ds, d.ok) ∧ ds.length ≤ 2 * j ∧ Off [h.length, p] h1 hh ∧ Pk hh p)
    ⟨[], none, none, rfl, gf, by simp, by simp, .refl _ _, q1⟩
    (fun j s hh hj hi => by
      rw [src_intsL] at hj
      obtain ⟨ds, u, v, rfl, g, ok, l, o, qq⟩ := hi
      have gr' := o.get gr1 (by simp; omega)
      obtain ⟨es, y5, h2', e2, g2, ok2, l2, o2, q2⟩ := in266_ev F W hT hD (x2 := some (.int (m : Int))) (x4 := some (.int (0 + (j : Int)))) (x5 := v) qq gr' g hrp (by omega) (by omega) h2 hl nd hn (by omega) ok
      exact ⟨.int (0 + (j : Int)), _, h2', by rw [src_ints, if_pos hj], by rw [foB_nm]; exact e2, es, _, y5, rfl, g2, ok2, by omega, o.trans o2, q2⟩)
    (fun s' h' _ => by rw [src_intsL, src_ints, if_neg (by omega)])
  rw [src_intsL] at ld
  refine ⟨ds, h', ?_, ok, by omega, ?_, qd⟩
  · unfold in266 at ef
    simp only [b266, n266, run_eq, List.length_cons, List.length_nil, List.map_cons, List.map_nil, List.cons_append, List.nil_append, List.replicate, List.set_cons_zero, List.set_cons_succ, x_cons, x_nil, seqC_nx, seqC_rt, x_asg, asgK_nm, asgK_sub, retS_some, retH_some, sub1_eq, sub2_eq, x_expr, exK_eq, x_ret, retK_eq, x_retn, x_iff, iffK_t, iffK_f, x_fo, x_pas, x_par, runK_nx, runK_rt, bindE_some, bindL_some, bindO_some, bindI_some, bindB_some, liftB_some, retV_some, asB_bl, bin1_eq, e_bin, cmpK_eq, cmp1_eq, e_cmp, cmpR_t, cmpR_f, cmp2a_eq, e_cmp2, cmpR3_t, cmpR3_f, cmp3a_eq, e_cmp3, e_and, e_or, andK_t, andK_f, orK_t, orK_f, bOut_eq, notK_eq, e_not, negK_int, e_neg, iteK_t, iteK_f, e_ite, tupK2_eq, e_tup, lstK_eq, e_lst, e_dct0, ixK_eq, ix1_eq, e_ix, sl1_eq, sl2_eq, e_sl, e_rev, o_no, o_ex, oK_int, e_call, e_bi, e_me, s_nil, s_cons, consA_eq, consB_eq, e_lit, e_glob, e_var0, e_varS, e_comp, i_range1, i_range2, r2a_eq, i_val, vK_tup, vK_str, t_lit, t_cmp, t_cmp2, t_cmp3, t_call, t_bi, t_var, t_and, t_or, t_not, andT_t, andT_f, orT_t, orT_f, notT_eq, v_add, v_sub, c_lt, c_le, c_gt, c_ge, c_eqI, c_neI, c_eqS, c_neS, c_isN, c_isnotN, c_isB, c_isnotB, x_tup, x_lstV, sl_lstV, sl_tup, b_lenT, b_lenV, decide_true, decide_false, Bool.not_true, Bool.not_false, e1, r1K_int sm, Int.toNat_natCast, ef, b_tupL gd]
  · exact (((o0.mono (by simp)).trans o1).trans (Off.refl _ _)).drop (od) (by omega)
end TH

/-! Plots drawn (267). -/
namespace TH
open PySem
inductive Pt where
  | row (ds : List Dd) | alt (o : Bool) (ps : List Pt) | again (p : Pt) (a b : Nat)
def altW (o : Bool) : List Nat := if o = true then sOr else sThen
mutual
def Pt.cv : Pt → CV
  | .row ds => .tup [.str sRow, .tup (ds.map Dd.cv)]
  | .alt o ps => .tup [.str (altW o), .tup (Pt.cvs ps)]
  | .again p a b => .tup [.str sAgain, p.cv, .int (a : Int), .int (b : Int)]
def Pt.cvs : List Pt → List CV
  | [] => []
  | p :: ps => p.cv :: Pt.cvs ps
end
theorem Pt.cvs_map : ∀ ps : List Pt, Pt.cvs ps = ps.map Pt.cv
  | [] => by rw [Pt.cvs]; rfl
  | p :: ps => by rw [Pt.cvs, Pt.cvs_map ps]; rfl
theorem Pt.cv_row (ds : List Dd) : (Pt.row ds).cv = .tup [.str sRow, .tup (ds.map Dd.cv)] := by rw [Pt.cv]
theorem Pt.cv_alt (o : Bool) (ps : List Pt) : (Pt.alt o ps).cv = .tup [.str (altW o), .tup (ps.map Pt.cv)] := by rw [Pt.cv, Pt.cvs_map]
theorem Pt.cv_again (p : Pt) (a b : Nat) : (Pt.again p a b).cv = .tup [.str sAgain, p.cv, .int (a : Int), .int (b : Int)] := by rw [Pt.cv]
/-- so deep at the most; as these laws draw them -/
def Pt.okN : Nat → Pt → Prop
  | 0, _ => False
  | _ + 1, .row ds => ds.length ≤ 4 ∧ ∀ d ∈ ds, d.ok
  | n + 1, .alt _ ps => ps ≠ [] ∧ ps.length ≤ 3 ∧ ∀ p ∈ ps, Pt.okN n p
  | n + 1, .again p a b => a ≤ b ∧ b ≤ 4 ∧ Pt.okN n p
theorem Pt.okN.up : ∀ {n : Nat} {t : Pt}, t.okN n → t.okN (n + 1)
  | n + 1, .row ds, h => h
  | n + 1, .alt o ps, h => ⟨h.1, h.2.1, fun p hp => (h.2.2 p hp).up⟩
  | n + 1, .again p a b, h => ⟨h.1, h.2.1, h.2.2.up⟩
theorem Pt.okN.le {n m : Nat} {t : Pt} (h : t.okN n) (l : n ≤ m) : t.okN m := by
  induction l with
  | refl => exact h
  | step _ ih => exact ih.up
/-! ### drawn -/
abbrev bsQ : List (Nat × Nat × CSs) := [(267, n267.length, b267)]
theorem q267 (F : Fns) (W d : Nat) : recF F W bsQ (d + 1) 267 = runC (recF F W bsQ d) W n267.length b267 := rfl
theorem qne (F : Fns) (W d j : Nat) (h : (bsQ.lookup j).isNone = true) : recF F W bsQ d j = F j := by
  cases d <;> (unfold recF; cases e : bsQ.lookup j with | none => rfl | some p => rw [e] at h; cases h)
structure Dr (F : Fns) : Prop where
  take : Takes F
  row : ∀ (h : CH) (p r m : Nat) (ks : List (List Nat)), Pk h p → h[r]? = some (.lst (ks.map .str)) → r ≠ p → 2 ≤ ks.length → ks.length ≤ 1000 → ks.Nodup → (∀ k ∈ ks, Nm k) → m ≤ 100 →
    ∃ (ds : List Dd) (h' : CH), F 266 [.ref p, .ref r, .int (m : Int)] h = some (.tup (ds.map Dd.cv), h') ∧ (∀ d ∈ ds, d.ok) ∧ ds.length ≤ 2 * m ∧ Off [p] h h' ∧ Pk h' p
def in267 : CSs := (.cons (.expr (.me .append (.var 5) (.cons (.call 267 (.cons (.var 0) (.cons (.var 1) (.cons (.bin .sub (.var 2) (.lit (.int 1))) .nil)))) .nil))) .nil)
theorem run_lplot267 (F : Fns) (W : Nat) (D : Dr F) {p r : Nat} {ks : List (List Nat)} (hrp : r ≠ p) (h2 : 2 ≤ ks.length) (hl : ks.length ≤ 1000) (nd : ks.Nodup) (hn : ∀ k ∈ ks, Nm k) : ∀ (n d : Nat) (h : CH), n + 1 ≤ d → Pk h p → h[r]? = some (.lst (ks.map .str)) →
    ∃ (t : Pt) (h' : CH), recF F W bsQ d 267 [.ref p, .ref r, .int (n : Int)] h = some (t.cv, h') ∧ t.okN (n + 1) ∧ Off [p] h h' ∧ Pk h' p := by
  intro n
  induction n with
  | zero =>
    intro d h hd q gr
    obtain ⟨d, rfl⟩ : ∃ e, d = e + 1 := ⟨d - 1, by omega⟩
    rw [q267]
    have g93 : recF F W bsQ d 93 = F 93 := qne F W d 93 rfl
    have g266 : recF F W bsQ d 266 = F 266 := qne F W d 266 rfl
    obtain ⟨k, h1, e1, k0, k1, o1, q1⟩ := D.take h p 6 q (by decide) (by decide)
    obtain ⟨ds, h2', e2, ok, l, o2, q2⟩ := D.row h1 p r 2 ks q1 (o1.get gr (by simpa using hrp)) hrp h2 hl nd hn (by decide)
    refine ⟨.row ds, h2', ?_, ⟨l, ok⟩, o1.trans o2, q2⟩
    have e2 : F 266 [.ref p, .ref r, .int 2] h1 = some (.tup (ds.map Dd.cv), h2') := e2
    have c0 : cmpV .eq (.int ((0 : Nat) : Int)) (.int 0) h1 = some true := by rw [c_eqI]; rfl
    rw [Pt.cv_row]
    unfold sRow
    simp only [b267, n267, run_eq, List.length_cons, List.length_nil, List.map_cons, List.map_nil, List.cons_append, List.nil_append, List.replicate, List.set_cons_zero, List.set_cons_succ, x_cons, x_nil, seqC_nx, seqC_rt, x_asg, asgK_nm, asgK_sub, retS_some, retH_some, sub1_eq, sub2_eq, x_expr, exK_eq, x_ret, retK_eq, x_retn, x_iff, iffK_t, iffK_f, x_fo, x_pas, x_par, runK_nx, runK_rt, bindE_some, bindL_some, bindO_some, bindI_some, bindB_some, liftB_some, retV_some, asB_bl, bin1_eq, e_bin, cmpK_eq, cmp1_eq, e_cmp, cmpR_t, cmpR_f, cmp2a_eq, e_cmp2, cmpR3_t, cmpR3_f, cmp3a_eq, e_cmp3, e_and, e_or, andK_t, andK_f, orK_t, orK_f, bOut_eq, notK_eq, e_not, negK_int, e_neg, iteK_t, iteK_f, e_ite, tupK2_eq, e_tup, lstK_eq, e_lst, e_dct0, ixK_eq, ix1_eq, e_ix, sl1_eq, sl2_eq, e_sl, e_rev, o_no, o_ex, oK_int, e_call, e_bi, e_me, s_nil, s_cons, consA_eq, consB_eq, e_lit, e_glob, e_var0, e_varS, e_comp, i_range1, i_range2, r2a_eq, i_val, vK_tup, vK_str, t_lit, t_cmp, t_cmp2, t_cmp3, t_call, t_bi, t_var, t_and, t_or, t_not, andT_t, andT_f, orT_t, orT_f, notT_eq, v_add, v_sub, c_lt, c_le, c_gt, c_ge, c_eqI, c_neI, c_eqS, c_neS, c_isN, c_isnotN, c_isB, c_isnotB, x_tup, x_lstV, sl_lstV, sl_tup, b_lenT, b_lenV, decide_true, decide_false, Bool.not_true, Bool.not_false, g93, e1, g266, c0, e2]
  | succ n ih =>
    intro d h hd q gr
    obtain ⟨d, rfl⟩ : ∃ e, d = e + 1 := ⟨d - 1, by omega⟩
    rw [q267]
    have g93 : recF F W bsQ d 93 = F 93 := qne F W d 93 rfl
    have g266 : recF F W bsQ d 266 = F 266 := qne F W d 266 rfl
    obtain ⟨k, h1, e1, k0, k1, o1, q1⟩ := D.take h p 6 q (by decide) (by decide)
    have gr1 := o1.get gr (by simpa using hrp)
    have c0 : ∀ h, cmpV .eq (.int ((n + 1 : Nat) : Int)) (.int 0) h = some false := fun h => by rw [c_eqI]; exact congrArg some (decide_eq_false (by omega))
    have sb : ∀ h, binV .sub (.int ((n + 1 : Nat) : Int)) (.int 1) h = some (.int (n : Int), h) := fun h => by rw [v_sub]; exact congrArg (fun z => some (CV.int z, h)) (by omega)
    by_cases hk : k < 2
    · obtain ⟨ds, h2', e2, ok, l, o2, q2⟩ := D.row h1 p r 2 ks q1 gr1 hrp h2 hl nd hn (by decide)
      have e2 : F 266 [.ref p, .ref r, .int 2] h1 = some (.tup (ds.map Dd.cv), h2') := e2
      refine ⟨.row ds, h2', ?_, ⟨l, ok⟩, o1.trans o2, q2⟩
      rw [Pt.cv_row]
      unfold sRow
      simp only [b267, n267, run_eq, List.length_cons, List.length_nil, List.map_cons, List.map_nil, List.cons_append, List.nil_append, List.replicate, List.set_cons_zero, List.set_cons_succ, x_cons, x_nil, seqC_nx, seqC_rt, x_asg, asgK_nm, asgK_sub, retS_some, retH_some, sub1_eq, sub2_eq, x_expr, exK_eq, x_ret, retK_eq, x_retn, x_iff, iffK_t, iffK_f, x_fo, x_pas, x_par, runK_nx, runK_rt, bindE_some, bindL_some, bindO_some, bindI_some, bindB_some, liftB_some, retV_some, asB_bl, bin1_eq, e_bin, cmpK_eq, cmp1_eq, e_cmp, cmpR_t, cmpR_f, cmp2a_eq, e_cmp2, cmpR3_t, cmpR3_f, cmp3a_eq, e_cmp3, e_and, e_or, andK_t, andK_f, orK_t, orK_f, bOut_eq, notK_eq, e_not, negK_int, e_neg, iteK_t, iteK_f, e_ite, tupK2_eq, e_tup, lstK_eq, e_lst, e_dct0, ixK_eq, ix1_eq, e_ix, sl1_eq, sl2_eq, e_sl, e_rev, o_no, o_ex, oK_int, e_call, e_bi, e_me, s_nil, s_cons, consA_eq, consB_eq, e_lit, e_glob, e_var0, e_varS, e_comp, i_range1, i_range2, r2a_eq, i_val, vK_tup, vK_str, t_lit, t_cmp, t_cmp2, t_cmp3, t_call, t_bi, t_var, t_and, t_or, t_not, andT_t, andT_f, orT_t, orT_f, notT_eq, v_add, v_sub, c_lt, c_le, c_gt, c_ge, c_eqI, c_neI, c_eqS, c_neS, c_isN, c_isnotN, c_isB, c_isnotB, x_tup, x_lstV, sl_lstV, sl_tup, b_lenT, b_lenV, decide_true, decide_false, Bool.not_true, Bool.not_false, g93, e1, g266, c0, hk, e2]
    · by_cases h5 : k = 5
      · subst h5
        obtain ⟨a, h2', e2, a0, a1, o2, q2⟩ := D.take h1 p 3 q1 (by decide) (by decide)
        have gr2 := o2.get gr1 (by simpa using hrp)
        obtain ⟨t, h3, e3, ok3, o3, q3⟩ := ih d h2' (by omega) q2 gr2
        obtain ⟨b, h4, e4, b0, b1, o4, q4⟩ := D.take h3 p 3 q3 (by decide) (by decide)
        obtain ⟨a, rfl⟩ : ∃ z : Nat, a = (z : Int) := ⟨a.toNat, by omega⟩
        obtain ⟨b, rfl⟩ : ∃ z : Nat, b = (z : Int) := ⟨b.toNat, by omega⟩
        refine ⟨.again t a (a + b), h4, ?_, ⟨by omega, by omega, ok3⟩, o1.trans (o2.trans (o3.trans o4)), q4⟩
        rw [Pt.cv_again]
        unfold sAgain
        have ab : ((a + b : Nat) : Int) = (a : Int) + (b : Int) := by omega
        rw [ab]
        simp only [b267, n267, run_eq, List.length_cons, List.length_nil, List.map_cons, List.map_nil, List.cons_append, List.nil_append, List.replicate, List.set_cons_zero, List.set_cons_succ, x_cons, x_nil, seqC_nx, seqC_rt, x_asg, asgK_nm, asgK_sub, retS_some, retH_some, sub1_eq, sub2_eq, x_expr, exK_eq, x_ret, retK_eq, x_retn, x_iff, iffK_t, iffK_f, x_fo, x_pas, x_par, runK_nx, runK_rt, bindE_some, bindL_some, bindO_some, bindI_some, bindB_some, liftB_some, retV_some, asB_bl, bin1_eq, e_bin, cmpK_eq, cmp1_eq, e_cmp, cmpR_t, cmpR_f, cmp2a_eq, e_cmp2, cmpR3_t, cmpR3_f, cmp3a_eq, e_cmp3, e_and, e_or, andK_t, andK_f, orK_t, orK_f, bOut_eq, notK_eq, e_not, negK_int, e_neg, iteK_t, iteK_f, e_ite, tupK2_eq, e_tup, lstK_eq, e_lst, e_dct0, ixK_eq, ix1_eq, e_ix, sl1_eq, sl2_eq, e_sl, e_rev, o_no, o_ex, oK_int, e_call, e_bi, e_me, s_nil, s_cons, consA_eq, consB_eq, e_lit, e_glob, e_var0, e_varS, e_comp, i_range1, i_range2, r2a_eq, i_val, vK_tup, vK_str, t_lit, t_cmp, t_cmp2, t_cmp3, t_call, t_bi, t_var, t_and, t_or, t_not, andT_t, andT_f, orT_t, orT_f, notT_eq, v_add, v_sub, c_lt, c_le, c_gt, c_ge, c_eqI, c_neI, c_eqS, c_neS, c_isN, c_isnotN, c_isB, c_isnotB, x_tup, x_lstV, sl_lstV, sl_tup, b_lenT, b_lenV, decide_true, decide_false, Bool.not_true, Bool.not_false, g93, e1, g266, c0, hk, e2, sb, e3, e4]
      · have o0 : Off [] h1 (h1 ++ [CO.lst []]) := Off.app _ _ _
        have q0 := q1.keep o0 (by simp)
        have l1 := q1.lt
        obtain ⟨m, h3, e3, m0, m1, o3, q3⟩ := D.take _ p 3 q0 (by decide) (by decide)
        obtain ⟨m, rfl⟩ : ∃ z : Nat, m = (z : Int) := ⟨m.toNat, by omega⟩
        have sm : small62 (1 + (m : Int)) = true := by unfold small62; simp only [Bool.and_eq_true, decide_eq_true_eq]; omega
        have hn1 : (1 + (m : Int)).toNat = m + 1 := by omega
        have gf := o3.get (get_new (h := h1) (o := CO.lst [])) (by simp; omega)
        have gr3 := o3.get (o0.get gr1 (by simp)) (by simpa using hrp)
        have lr1 := lt_of gr1
        obtain ⟨s', h', ef, ts, u, rfl, gd, ok, ld, od, qd⟩ := foK_inv (F := recF F W bsQ d) (W := W) (t := .nm 6) (b := in267) (src := .ints 0 (m + 1)) (s := [some (.ref p), some (.ref r), some (.int ((n + 1 : Nat) : Int)), some (.int k), none, some (.ref h1.length), none]) (h := h3)
          (fun j s hh => ∃ (ts : List Pt) (u : Option CV), s = [some (.ref p), some (.ref r), some (.int ((n + 1 : Nat) : Int)), some (.int k), none, some (.ref h1.length), u] ∧ hh[h1.length]? = some (.lst (ts.map Pt.cv)) ∧ (∀ t ∈ ts, t.okN (n + 1)) ∧ ts.length = j ∧ Off [h1.length, p] h3 hh ∧ Pk hh p)
          ⟨[], none, rfl, gf, by simp, rfl, .refl _ _, q3⟩
          (fun j s hh hj hi => by
            rw [src_intsL] at hj
            obtain ⟨ts, u, rfl, g, ok, l, o, qq⟩ := hi
            obtain ⟨t, h2', e2, ok2, o2, q2⟩ := ih d hh (by omega) qq (o.get gr3 (by simp; omega))
            have g2 := o2.get g (by simp; omega)
            have mm := m_append (v := t.cv) g2 (lim_lt (by rw [List.length_map]; omega))
            have rr := r_append g
            have z : ts.map Pt.cv ++ [t.cv] = (ts ++ [t]).map Pt.cv := by rw [List.map_append]; rfl
            rw [z] at mm
            refine ⟨.int (0 + (j : Int)), _, h2'.set h1.length (.lst ((ts ++ [t]).map Pt.cv)), by rw [src_ints, if_pos hj], ?_, ts ++ [t], some (.int (0 + (j : Int))), rfl, List.getElem?_set_self (lt_of g2), fun x hx => ?_, by simp [l], o.trans ((o2.mono (by simp)).trans (Off.set (by simp))), q2.keep (Off.set (S := [h1.length]) (h := h2') (i := h1.length) (by simp)) (by simp; omega)⟩
            · rw [foB_nm]
              simp only [in267, run_eq, List.length_cons, List.length_nil, List.map_cons, List.map_nil, List.cons_append, List.nil_append, List.replicate, List.set_cons_zero, List.set_cons_succ, x_cons, x_nil, seqC_nx, seqC_rt, x_asg, asgK_nm, asgK_sub, retS_some, retH_some, sub1_eq, sub2_eq, x_expr, exK_eq, x_ret, retK_eq, x_retn, x_iff, iffK_t, iffK_f, x_fo, x_pas, x_par, runK_nx, runK_rt, bindE_some, bindL_some, bindO_some, bindI_some, bindB_some, liftB_some, retV_some, asB_bl, bin1_eq, e_bin, cmpK_eq, cmp1_eq, e_cmp, cmpR_t, cmpR_f, cmp2a_eq, e_cmp2, cmpR3_t, cmpR3_f, cmp3a_eq, e_cmp3, e_and, e_or, andK_t, andK_f, orK_t, orK_f, bOut_eq, notK_eq, e_not, negK_int, e_neg, iteK_t, iteK_f, e_ite, tupK2_eq, e_tup, lstK_eq, e_lst, e_dct0, ixK_eq, ix1_eq, e_ix, sl1_eq, sl2_eq, e_sl, e_rev, o_no, o_ex, oK_int, e_call, e_bi, e_me, s_nil, s_cons, consA_eq, consB_eq, e_lit, e_glob, e_var0, e_varS, e_comp, i_range1, i_range2, r2a_eq, i_val, vK_tup, vK_str, t_lit, t_cmp, t_cmp2, t_cmp3, t_call, t_bi, t_var, t_and, t_or, t_not, andT_t, andT_f, orT_t, orT_f, notT_eq, v_add, v_sub, c_lt, c_le, c_gt, c_ge, c_eqI, c_neI, c_eqS, c_neS, c_isN, c_isnotN, c_isB, c_isnotB, x_tup, x_lstV, sl_lstV, sl_tup, b_lenT, b_lenV, decide_true, decide_false, Bool.not_true, Bool.not_false, me1_eq rr, sb, e2, mm]
            · rcases List.mem_append.mp hx with h | h
              · exact ok x h
              · rw [List.mem_singleton.mp h]; exact ok2)
          (fun s' h' _ => by rw [src_intsL, src_ints, if_neg (by omega)])
        rw [src_intsL] at ld
        obtain ⟨o, eo⟩ : ∃ o : Bool, atI [CV.str [116, 104, 101, 110], .str [111, 114], .str [116, 104, 101, 110]] (k - 2) = some (.str (altW o)) := by
          rcases (by omega : k = 2 ∨ k = 3 ∨ k = 4) with rfl | rfl | rfl
          · exact ⟨false, rfl⟩
          · exact ⟨true, rfl⟩
          · exact ⟨false, rfl⟩
        have o4 : Off [] h' (h' ++ [CO.lst [CV.str [116, 104, 101, 110], .str [111, 114], .str [116, 104, 101, 110]]]) := Off.app _ _ _
        have gd4 := o4.get gd (by simp)
        refine ⟨.alt o ts, _, ?_, ⟨by rintro rfl; simp at ld, by omega, ok⟩, ((o1.trans ((o0.mono (by simp)).trans o3)).drop od (by have := o1.len; omega)).trans (o4.mono (by simp)), qd.keep o4 (by simp)⟩
        rw [Pt.cv_alt]
        unfold in267 at ef
        simp only [b267, n267, run_eq, List.length_cons, List.length_nil, List.map_cons, List.map_nil, List.cons_append, List.nil_append, List.replicate, List.set_cons_zero, List.set_cons_succ, x_cons, x_nil, seqC_nx, seqC_rt, x_asg, asgK_nm, asgK_sub, retS_some, retH_some, sub1_eq, sub2_eq, x_expr, exK_eq, x_ret, retK_eq, x_retn, x_iff, iffK_t, iffK_f, x_fo, x_pas, x_par, runK_nx, runK_rt, bindE_some, bindL_some, bindO_some, bindI_some, bindB_some, liftB_some, retV_some, asB_bl, bin1_eq, e_bin, cmpK_eq, cmp1_eq, e_cmp, cmpR_t, cmpR_f, cmp2a_eq, e_cmp2, cmpR3_t, cmpR3_f, cmp3a_eq, e_cmp3, e_and, e_or, andK_t, andK_f, orK_t, orK_f, bOut_eq, notK_eq, e_not, negK_int, e_neg, iteK_t, iteK_f, e_ite, tupK2_eq, e_tup, lstK_eq, e_lst, e_dct0, ixK_eq, ix1_eq, e_ix, sl1_eq, sl2_eq, e_sl, e_rev, o_no, o_ex, oK_int, e_call, e_bi, e_me, s_nil, s_cons, consA_eq, consB_eq, e_lit, e_glob, e_var0, e_varS, e_comp, i_range1, i_range2, r2a_eq, i_val, vK_tup, vK_str, t_lit, t_cmp, t_cmp2, t_cmp3, t_call, t_bi, t_var, t_and, t_or, t_not, andT_t, andT_f, orT_t, orT_f, notT_eq, v_add, v_sub, c_lt, c_le, c_gt, c_ge, c_eqI, c_neI, c_eqS, c_neS, c_isN, c_isnotN, c_isB, c_isnotB, x_tup, x_lstV, sl_lstV, sl_tup, b_lenT, b_lenV, decide_true, decide_false, Bool.not_true, Bool.not_false, g93, e1, c0, hk, h5, e3, r1K_int sm, hn1, ef, x_lst get_new, eo, b_tupL gd4]
/-! ### it is a plot; how deep -/
theorem deedV_cv {d : Dd} (h : d.ok) : deedV d.cv = true := by
  obtain ⟨a, b, c, n⟩ := h
  have hn : ∀ {k}, Nm k → nmV (.str k) = true := fun {k} hk => by
    show nmB k = true
    unfold nmB
    rw [decide_eq_true hk.1, decide_eq_true hk.2.1]
    exact List.all_eq_true.mpr fun c hc => decide_eq_true (hk.2.2 c hc)
  have hk : kindV (.str (kd d.s)) = true := by cases d.s <;> decide
  simp only [Dd.cv, deedV, hn a, hn b, hn c, hk, Bool.true_and]
  simp [n]
theorem plotV_cv : ∀ {n : Nat} {t : Pt}, t.okN n → plotV n t.cv = true
  | n + 1, .row ds, h => by
    rw [Pt.cv_row, plotV_eq, if_pos rfl]
    exact List.all_eq_true.mpr fun x hx => by
      obtain ⟨d, hd, rfl⟩ := List.mem_map.mp hx
      exact deedV_cv (h.2 d hd)
  | n + 1, .alt o ps, h => by
    rw [Pt.cv_alt, plotV_eq, if_neg (by cases o <;> decide), if_pos (by cases o <;> simp [altW])]
    show (!(ps.map Pt.cv).isEmpty && (ps.map Pt.cv).all (plotV n)) = true
    rw [Bool.and_eq_true]
    refine ⟨?_, List.all_eq_true.mpr fun x hx => ?_⟩
    · cases ps with
      | nil => exact absurd rfl h.1
      | cons => rfl
    · obtain ⟨p, hp, rfl⟩ := List.mem_map.mp hx
      exact plotV_cv (h.2.2 p hp)
  | n + 1, .again p a b, h => by
    rw [Pt.cv_again, plotV_eq, if_neg (by decide), if_neg (by decide), if_pos rfl]
    show (decide ((0 : Int) ≤ (a : Int) ∧ (a : Int) ≤ (b : Int) ∧ (b : Int) ≤ 4) && plotV n p.cv) = true
    rw [plotV_cv h.2.2, decide_eq_true (by have := h.1; have := h.2.1; omega)]
    rfl
theorem part_of {h : CH} {v : CV} (t : Typ h v) (n : ∀ k, v ≠ .str k) : Part h v := ⟨t, fun k e => absurd e (n k)⟩
theorem thg_str {h : CH} {k : List Nat} (n : Nat) (l : k.length ≤ 1000) : Thg h n (.str k) := Thg.le (n := 0) ⟨⟨trivial, fun k' e => by cases e; exact l⟩, by simp, by simp⟩ (by omega)
theorem thg_int {h : CH} (n : Nat) (i : Int) : Thg h n (.int i) := Thg.le (n := 0) ⟨part_of trivial (by simp), by simp, by simp⟩ (by omega)
theorem thg_bl {h : CH} (n : Nat) (i : Bool) : Thg h n (.bl i) := Thg.le (n := 0) ⟨part_of trivial (by simp), by simp, by simp⟩ (by omega)
theorem thg_non {h : CH} (n : Nat) : Thg h n .non := Thg.le (n := 0) ⟨part_of trivial (by simp), by simp, by simp⟩ (by omega)
theorem thg_tup {h : CH} {n : Nat} {xs : List CV} (l : xs.length ≤ 1000) (hx : ∀ x ∈ xs, Thg h n x) : Thg h (n + 1) (.tup xs) := ⟨part_of trivial (by simp), fun ys e => by cases e; exact ⟨l, hx⟩, by simp⟩
theorem thg_ref {h : CH} {n r : Nat} {xs : List CV} (g : h[r]? = some (.lst xs)) (hx : ∀ x ∈ xs, Thg h n x) : Thg h (n + 1) (.ref r) := ⟨part_of (.inl ⟨xs, g⟩) (by simp), by simp, fun r' e => by cases e; exact ⟨xs, g, hx⟩⟩
theorem thg_dd {h : CH} {d : Dd} (n : Nat) (o : d.ok) : Thg h (n + 1) d.cv := by
  obtain ⟨a, b, c, _⟩ := o
  refine thg_tup (by simp) fun x hx => ?_
  simp only [List.mem_cons, List.not_mem_nil, or_false] at hx
  rcases hx with rfl | rfl | rfl | rfl
  · exact thg_str n (by cases d.s <;> decide)
  · exact thg_str n (by have := a.2.1; omega)
  · exact thg_str n (by have := b.2.1; omega)
  · exact thg_str n (by have := c.2.1; omega)
theorem thg_pt {h : CH} : ∀ {n : Nat} {t : Pt}, t.okN n → Thg h (2 * n + 1) t.cv
  | n + 1, .row ds, o => by
    rw [Pt.cv_row]
    refine thg_tup (n := 2 * n + 2) (by simp) fun x hx => ?_
    simp only [List.mem_cons, List.not_mem_nil, or_false] at hx
    rcases hx with rfl | rfl
    · exact thg_str _ (by decide)
    · refine thg_tup (n := 2 * n + 1) (by rw [List.length_map]; have := o.1; omega) fun x hx => ?_
      obtain ⟨d, hd, rfl⟩ := List.mem_map.mp hx
      exact thg_dd _ (o.2 d hd)
  | n + 1, .alt a ps, o => by
    rw [Pt.cv_alt]
    refine thg_tup (n := 2 * n + 2) (by simp) fun x hx => ?_
    simp only [List.mem_cons, List.not_mem_nil, or_false] at hx
    rcases hx with rfl | rfl
    · exact thg_str _ (by cases a <;> decide)
    · refine thg_tup (n := 2 * n + 1) (by rw [List.length_map]; have := o.2.1; omega) fun x hx => ?_
      obtain ⟨p, hp, rfl⟩ := List.mem_map.mp hx
      exact thg_pt (o.2.2 p hp)
  | n + 1, .again p a b, o => by
    rw [Pt.cv_again]
    refine thg_tup (n := 2 * n + 2) (by simp) fun x hx => ?_
    simp only [List.mem_cons, List.not_mem_nil, or_false] at hx
    rcases hx with rfl | rfl | rfl | rfl
    · exact thg_str _ (by decide)
    · exact (thg_pt o.2.2).le (by omega)
    · exact thg_int _ _
    · exact thg_int _ _
end TH

/-! Plots spoilt (271, 272, 273). -/
namespace TH
open PySem
theorem run_lsame271 (F : Fns) (W : Nat) (a b : Bool) (h : CH) : runC F W n271.length b271 [.bl a, .bl b] h = some (.bl (a == b), h) := by
  have i : isiV .bool (.bl a) h = some true := rfl
  have e : cmpV .eq (.bl a) (.bl b) h = some (a == b) := by rw [c_eq (eqV_bl h a b)]
  simp only [b271, n271, run_eq, List.length_cons, List.length_nil, List.map_cons, List.map_nil, List.cons_append, List.nil_append, List.replicate, List.set_cons_zero, List.set_cons_succ, x_cons, x_nil, seqC_nx, seqC_rt, x_asg, asgK_nm, asgK_sub, retS_some, retH_some, sub1_eq, sub2_eq, x_expr, exK_eq, x_ret, retK_eq, x_retn, x_iff, iffK_t, iffK_f, x_fo, x_pas, x_par, runK_nx, runK_rt, bindE_some, bindL_some, bindO_some, bindI_some, bindB_some, liftB_some, retV_some, asB_bl, bin1_eq, e_bin, cmpK_eq, cmp1_eq, e_cmp, cmpR_t, cmpR_f, cmp2a_eq, e_cmp2, cmpR3_t, cmpR3_f, cmp3a_eq, e_cmp3, e_and, e_or, andK_t, andK_f, orK_t, orK_f, bOut_eq, notK_eq, e_not, negK_int, e_neg, iteK_t, iteK_f, e_ite, tupK2_eq, e_tup, lstK_eq, e_lst, e_dct0, ixK_eq, ix1_eq, e_ix, sl1_eq, sl2_eq, e_sl, e_rev, o_no, o_ex, oK_int, e_call, e_bi, e_me, s_nil, s_cons, consA_eq, consB_eq, e_lit, e_glob, e_var0, e_varS, e_comp, i_range1, i_range2, r2a_eq, i_val, vK_tup, vK_str, t_lit, t_cmp, t_cmp2, t_cmp3, t_call, t_bi, t_var, t_and, t_or, t_not, andT_t, andT_f, orT_t, orT_f, notT_eq, v_add, v_sub, c_lt, c_le, c_gt, c_ge, c_eqI, c_neI, c_eqS, c_neS, c_isN, c_isnotN, c_isB, c_isnotB, x_tup, x_lstV, sl_lstV, sl_tup, b_lenT, b_lenV, decide_true, decide_false, Bool.not_true, Bool.not_false, b_isi i, e]
theorem atI_mem {α : Type} {xs : List α} {i : Int} (h0 : 0 ≤ i) (h1 : i < xs.length) : ∃ x, atI xs i = some x ∧ x ∈ xs := by
  rw [atI_int xs h0]
  exact ⟨xs[i.toNat]'(by omega), List.getElem?_eq_getElem _, List.getElem_mem _⟩
def spL (n0 : Nat) (word : List Nat) (A B : CV) (rest : List CV) (P : CV) : List CV :=
  [.ref n0, .tup (.str word :: B :: rest), .tup (A :: B :: (rest ++ [.tup []])), .tup [A], .tup [P], .tup (A :: .ref (n0 + 2) :: rest),
   .tup [.str sAgain, P, .int 2, .int 1], .tup [.str sAgain, P, .int 0, .int 5], .tup [.str sAgain, P, .bl true, .int 2], .tup [.str sAgain, P, .int (-1), .int 1], .tup [.str sAgain, P, .int 0, .int 4], .non]
def spT (n0 : Nat) (word : List Nat) (A : CV) (ys rest : List CV) (P : CV) : CH :=
  [.lst (A :: .tup ys :: rest), .lst ((spL n0 word A (.tup ys) rest P).take 6), .lst ys, .lst [.tup [.str sAgain, P, .int 2, .int 1], .tup [.str sAgain, P, .int 0, .int 5]], .lst ((spL n0 word A (.tup ys) rest P).take 8),
   .lst [.tup [.str sAgain, P, .bl true, .int 2], .tup [.str sAgain, P, .int (-1), .int 1]], .lst ((spL n0 word A (.tup ys) rest P).take 10), .lst [.tup [.str sAgain, P, .int 0, .int 4], .non], .lst (spL n0 word A (.tup ys) rest P)]
theorem run_here272 (F : Fns) (W : Nat) (hT : Takes F) {h : CH} {p n : Nat} {A : CV} {ys rest : List CV} (q : Pk h p) (hA : ∀ h, Thg h n A) (hy : ys.length ≤ 1000) (hys : ∀ y ∈ ys, ∀ h, Thg h n y) (hr : rest.length ≤ 2) (hrs : ∀ y ∈ rest, ∀ h, Thg h n y) :
    ∃ (v : CV) (h' : CH), runC F W n272.length b272 [.ref p, .tup (A :: .tup ys :: rest)] h = some (v, h') ∧ Thg h' (n + 3) v ∧ Off [p] h h' ∧ Pk h' p := by
  have lp := q.lt
  obtain ⟨k, h1, e1, k0, k1, o1, q1⟩ := hT h p 12 q (by decide) (by decide)
  have o2 : Off [] h1 (h1 ++ [CO.lst [CV.str sThen, .str sOr, .str sRow, .str sAgain, .str [97, 110, 100], .str []]]) := Off.app _ _ _
  have q2 := q1.keep o2 (by simp)
  have l1 := q1.lt
  obtain ⟨j, h3, e3, j0, j1, o3, q3⟩ := hT _ p 6 q2 (by decide) (by decide)
  have g3 := o3.get (get_new (h := h1) (o := CO.lst [CV.str sThen, .str sOr, .str sRow, .str sAgain, .str [97, 110, 100], .str []])) (by simp; omega)
  obtain ⟨word, ew, hw⟩ := strs_at (ks := [sThen, sOr, sRow, sAgain, [97, 110, 100], []]) j0 (by simpa using j1)
  have lw : word.length ≤ 1000 := by
    simp only [List.mem_cons, List.not_mem_nil, or_false] at hw
    rcases hw with rfl | rfl | rfl | rfl | rfl | rfl <;> decide
  have oo : Off [p] h h3 := o1.trans ((o2.mono (by simp)).trans o3)
  obtain ⟨P, hP⟩ : ∃ P, CV.tup (A :: .tup ys :: rest) = P := ⟨_, rfl⟩
  have xa : ∀ h, ixV P (.int 0) h = some A := fun h => by rw [← hP, x_tup]; exact at0
  have xb : ∀ h, ixV P (.int 1) h = some (.tup ys) := fun h => by rw [← hP, x_tup]; exact at1
  have s1 : ∀ h, slV P (some 1) none h = some (.tup (.tup ys :: rest), h) := fun h => by rw [← hP, sl_tup, show (1 : Int) = ((1 : Nat) : Int) from rfl, cut_from]; rfl
  have s2 : ∀ h, slV P (some 2) none h = some (.tup rest, h) := fun h => by rw [← hP, sl_tup, show (2 : Int) = ((2 : Nat) : Int) from rfl, cut_from]; rfl
  have s3 : ∀ h, slV P none (some 1) h = some (.tup [A], h) := fun h => by rw [← hP, sl_tup, show (1 : Int) = ((1 : Nat) : Int) from rfl, cut_to]; rfl
  have a1 : ∀ h, binV .add (.tup [.str word]) (.tup (.tup ys :: rest)) h = some (.tup (.str word :: .tup ys :: rest), h) := fun h => by rw [v_addT (lim_big (by simp; omega))]; rfl
  have a2 : ∀ h, binV .add P (.tup [.tup []]) h = some (.tup (A :: .tup ys :: (rest ++ [.tup []])), h) := fun h => by rw [← hP, v_addT (lim_big (by simp; omega))]; rfl
  have a3 : ∀ (h : CH) (i : Nat), binV .add (.tup [A, .ref i]) (.tup rest) h = some (.tup (A :: .ref i :: rest), h) := fun h i => by rw [v_addT (lim_big (by simp; omega))]; rfl
  have t1 : ∀ h, biV .list [P] h = some (.ref h.length, h ++ [.lst (A :: .tup ys :: rest)]) := fun h => by rw [← hP, b_listT]
  have t2 : ∀ h, biV .list [.tup ys] h = some (.ref h.length, h ++ [.lst ys]) := fun h => by rw [b_listT]
  obtain ⟨v, ev, hv⟩ := atI_mem (xs := spL h3.length word A (.tup ys) rest P) k0 (by simpa [spL] using k1)
  have hrun : runC F W n272.length b272 [.ref p, P] h = some (v, h3 ++ spT h3.length word A ys rest P) := by
    unfold spL sAgain at ev
    unfold sThen sOr sRow sAgain at e3 g3
    have ew' : atI [CV.str [116, 104, 101, 110], .str [111, 114], .str [114, 111, 119], .str [97, 103, 97, 105, 110], .str [97, 110, 100], .str []] j = some (.str word) := ew
    unfold spT spL sAgain
    simp only [b272, n272, run_eq, List.length_cons, List.length_nil, List.map_cons, List.map_nil, List.cons_append, List.nil_append, List.replicate, List.set_cons_zero, List.set_cons_succ, x_cons, x_nil, seqC_nx, seqC_rt, x_asg, asgK_nm, asgK_sub, retS_some, retH_some, sub1_eq, sub2_eq, x_expr, exK_eq, x_ret, retK_eq, x_retn, x_iff, iffK_t, iffK_f, x_fo, x_pas, x_par, runK_nx, runK_rt, bindE_some, bindL_some, bindO_some, bindI_some, bindB_some, liftB_some, retV_some, asB_bl, bin1_eq, e_bin, cmpK_eq, cmp1_eq, e_cmp, cmpR_t, cmpR_f, cmp2a_eq, e_cmp2, cmpR3_t, cmpR3_f, cmp3a_eq, e_cmp3, e_and, e_or, andK_t, andK_f, orK_t, orK_f, bOut_eq, notK_eq, e_not, negK_int, e_neg, iteK_t, iteK_f, e_ite, tupK2_eq, e_tup, lstK_eq, e_lst, e_dct0, ixK_eq, ix1_eq, e_ix, sl1_eq, sl2_eq, e_sl, e_rev, o_no, o_ex, oK_int, e_call, e_bi, e_me, s_nil, s_cons, consA_eq, consB_eq, e_lit, e_glob, e_var0, e_varS, e_comp, i_range1, i_range2, r2a_eq, i_val, vK_tup, vK_str, t_lit, t_cmp, t_cmp2, t_cmp3, t_call, t_bi, t_var, t_and, t_or, t_not, andT_t, andT_f, orT_t, orT_f, notT_eq, v_add, v_sub, c_lt, c_le, c_gt, c_ge, c_eqI, c_neI, c_eqS, c_neS, c_isN, c_isnotN, c_isB, c_isnotB, x_tup, x_lstV, sl_lstV, sl_tup, b_lenT, b_lenV, decide_true, decide_false, Bool.not_true, Bool.not_false, at0, at1, at2, at3, Nat.reduceAdd, Nat.reduceSub, Nat.reduceMul, Int.reduceAdd, Int.reduceSub, Int.reduceMul, Int.reduceNeg, Int.reduceLT, Int.reduceLE, Int.reduceToNat, Int.cast_ofNat_Int, get_at, get_at0, set_at, set_at0, v_addR, addO_ok, b_lenR, lenO_lst, x_ref, ixO_lst, sl_ref, slO_lst, set_ref, m_appR, appO_lst, b_allR, b_anyR, b_listT, vK_ref, vO_lst, me1_app, recO_lst, when_t, List.append_assoc, List.length_append, List.getElem?_cons_zero, List.getElem?_cons_succ, Nat.zero_add, lim_big, lim_lt, Nat.reduceLeDiff, Nat.reduceLT, e1, e3, x_lst g3, ew', xa, xb, s1, s2, s3, a1, a2, a3, t1, t2, ev]
    rfl
  have o4 : Off [] h3 (h3 ++ spT h3.length word A ys rest P) := Off.app _ _ _
  have of := oo.trans (o4.mono (by simp))
  have f0 : (h3 ++ spT h3.length word A ys rest P)[h3.length]? = some (.lst (A :: .tup ys :: rest)) := by rw [get_at0]; rfl
  have f2 : (h3 ++ spT h3.length word A ys rest P)[h3.length + 2]? = some (.lst ys) := by rw [get_at]; rfl
  rw [hP]
  refine ⟨v, h3 ++ spT h3.length word A ys rest P, hrun, ?_, of, q3.keep o4 (by simp)⟩
  generalize h3 ++ spT h3.length word A ys rest P = H at of f0 f2
  have kA := hA H
  have kr : ∀ y ∈ rest, Thg H n y := fun y hy => hrs y hy H
  have ky : ∀ y ∈ ys, Thg H n y := fun y hy => hys y hy H
  have kt : Thg H (n + 1) (.tup ys) := thg_tup hy ky
  have kP : Thg H (n + 2) P := by
    rw [← hP]
    refine thg_tup (by simp; omega) fun x hx => ?_
    simp only [List.mem_cons] at hx
    rcases hx with rfl | rfl | hx
    · exact kA.up
    · exact kt
    · exact (kr _ hx).up
  have key : ∀ xs : List CV, xs.length ≤ 1000 → (∀ x ∈ xs, Thg H (n + 2) x) → Thg H (n + 3) (.tup xs) := fun xs l hx => thg_tup l hx
  have ag : ∀ x y : CV, (∀ m, Thg H m x) → (∀ m, Thg H m y) → Thg H (n + 3) (.tup [.str sAgain, P, x, y]) := fun x y hx hy => key _ (by simp) fun z hz => by
    simp only [List.mem_cons, List.not_mem_nil, or_false] at hz
    rcases hz with rfl | rfl | rfl | rfl
    · exact thg_str _ (by decide)
    · exact kP
    · exact hx _
    · exact hy _
  simp only [spL, List.mem_cons, List.not_mem_nil, or_false] at hv
  rcases hv with rfl | rfl | rfl | rfl | rfl | rfl | rfl | rfl | rfl | rfl | rfl | rfl
  · refine (thg_ref (n := n + 1) f0 fun x hx => ?_).up
    simp only [List.mem_cons] at hx
    rcases hx with rfl | rfl | hx
    · exact kA.up
    · exact kt
    · exact (kr _ hx).up
  · refine key _ (by simp; omega) fun x hx => ?_
    simp only [List.mem_cons] at hx
    rcases hx with rfl | rfl | hx
    · exact thg_str _ lw
    · exact kt.up
    · exact (kr _ hx).up.up
  · refine key _ (by simp; omega) fun x hx => ?_
    simp only [List.mem_cons, List.mem_append, List.not_mem_nil, or_false] at hx
    rcases hx with rfl | rfl | hx | rfl
    · exact kA.up.up
    · exact kt.up
    · exact (kr _ hx).up.up
    · exact thg_tup (by simp) (by simp)
  · refine key _ (by simp) fun x hx => ?_
    rw [List.mem_singleton.mp hx]
    exact kA.up.up
  · refine key _ (by simp) fun x hx => ?_
    rw [List.mem_singleton.mp hx]
    exact kP
  · refine key _ (by simp; omega) fun x hx => ?_
    simp only [List.mem_cons] at hx
    rcases hx with rfl | rfl | hx
    · exact kA.up.up
    · exact (thg_ref (n := n) f2 ky).up
    · exact (kr _ hx).up.up
  · exact ag _ _ (fun m => thg_int m _) (fun m => thg_int m _)
  · exact ag _ _ (fun m => thg_int m _) (fun m => thg_int m _)
  · exact ag _ _ (fun m => thg_bl m _) (fun m => thg_int m _)
  · exact ag _ _ (fun m => thg_int m _) (fun m => thg_int m _)
  · exact ag _ _ (fun m => thg_int m _) (fun m => thg_int m _)
  · exact thg_non _
end TH

/-! Plots spoilt at a drawn place (273). -/
namespace TH
open PySem
abbrev bsS : List (Nat × Nat × CSs) := [(273, n273.length, b273)]
theorem s273 (F : Fns) (W d : Nat) : recF F W bsS (d + 1) 273 = runC (recF F W bsS d) W n273.length b273 := rfl
theorem sne (F : Fns) (W d j : Nat) (h : (bsS.lookup j).isNone = true) : recF F W bsS d j = F j := by
  cases d <;> (unfold recF; cases e : bsS.lookup j with | none => rfl | some p => rw [e] at h; cases h)
def od1 (n : Nat) : List CV := [.non, .tup [.str [115, 101, 110, 100], .str [97], .str [97], .str [120]], .tup [.str [103, 105, 118, 101], .str [97], .str [98], .str [120]], .tup [.str [115, 101, 110, 100], .str [97], .str [98]], .ref n]
def od2 : List CV := [.tup [.str [115, 101, 110, 100], .str [65], .str [98], .str [120]], .tup [.str [116, 97, 107, 101], .str [97], .str [98], .str [97, 98, 99, 100, 101, 102, 103, 104, 105]], .str [115, 101, 110, 100], .tup [.str [115, 101, 110, 100], .str [97], .str [], .str [120]], .tup []]
def odT (n : Nat) : CH := [.lst [.str [115, 101, 110, 100], .str [97], .str [98], .str [120]], .lst (od1 n), .lst od2, .lst (od1 n ++ od2)]
theorem od_thg {h : CH} {n : Nat} (g : h[n]? = some (.lst [.str [115, 101, 110, 100], .str [97], .str [98], .str [120]])) {v : CV} (hv : v ∈ od1 n ++ od2) : Thg h 1 v := by
  have key : ∀ ks : List (List Nat), (∀ k ∈ ks, k.length ≤ 1000) → ks.length ≤ 1000 → Thg h 1 (.tup (ks.map .str)) := fun ks hk l => thg_tup (by rw [List.length_map]; exact l) fun x hx => by
    obtain ⟨k, hk', rfl⟩ := List.mem_map.mp hx
    exact thg_str _ (hk k hk')
  simp only [od1, od2, List.cons_append, List.nil_append, List.mem_cons, List.not_mem_nil, or_false] at hv
  rcases hv with rfl | rfl | rfl | rfl | rfl | rfl | rfl | rfl | rfl | rfl
  · exact thg_non _
  · exact key [[115, 101, 110, 100], [97], [97], [120]] (by decide) (by decide)
  · exact key [[103, 105, 118, 101], [97], [98], [120]] (by decide) (by decide)
  · exact key [[115, 101, 110, 100], [97], [98]] (by decide) (by decide)
  · refine thg_ref g fun x hx => ?_
    simp only [List.mem_cons, List.not_mem_nil, or_false] at hx
    rcases hx with rfl | rfl | rfl | rfl <;> exact thg_str _ (by decide)
  · exact key [[115, 101, 110, 100], [65], [98], [120]] (by decide) (by decide)
  · exact key [[116, 97, 107, 101], [97], [98], [97, 98, 99, 100, 101, 102, 103, 104, 105]] (by decide) (by decide)
  · exact thg_str _ (by decide)
  · exact key [[115, 101, 110, 100], [97], [], [120]] (by decide) (by decide)
  · exact key [] (by simp) (by simp)
structure Sp3 (F : Fns) : Prop where
  take : Takes F
  here : ∀ (h : CH) (p n : Nat) (A : CV) (ys rest : List CV), Pk h p → (∀ h, Thg h n A) → ys.length ≤ 1000 → (∀ y ∈ ys, ∀ h, Thg h n y) → rest.length ≤ 2 → (∀ y ∈ rest, ∀ h, Thg h n y) →
    ∃ (v : CV) (h' : CH), F 272 [.ref p, .tup (A :: .tup ys :: rest)] h = some (v, h') ∧ Thg h' (n + 3) v ∧ Off [p] h h' ∧ Pk h' p
/-- the parts of a plot's tuple -/
theorem pt_shape {n : Nat} {t : Pt} (o : t.okN (n + 1)) : ∃ (w : List Nat) (ys rest : List CV), t.cv = .tup (.str w :: .tup ys :: rest) ∧ w.length ≤ 1000 ∧ ys.length ≤ 1000 ∧ (∀ y ∈ ys, ∀ h, Thg h (2 * n + 2) y) ∧ rest.length ≤ 2 ∧ ∀ y ∈ rest, ∀ h, Thg h (2 * n + 2) y := by
  cases t with
  | row ds =>
    refine ⟨sRow, ds.map Dd.cv, [], Pt.cv_row ds, by decide, by rw [List.length_map]; have := o.1; omega, fun y hy h => ?_, by simp, by simp⟩
    obtain ⟨d, hd, rfl⟩ := List.mem_map.mp hy
    exact thg_dd _ (o.2 d hd)
  | alt a ps =>
    refine ⟨altW a, ps.map Pt.cv, [], Pt.cv_alt a ps, by cases a <;> decide, by rw [List.length_map]; have := o.2.1; omega, fun y hy h => ?_, by simp, by simp⟩
    obtain ⟨p, hp, rfl⟩ := List.mem_map.mp hy
    exact (thg_pt (o.2.2 p hp)).up
  | again p a b =>
    obtain ⟨n, rfl⟩ : ∃ m, n = m + 1 := by
      cases n with
      | zero => exact absurd o.2.2 (by simp [Pt.okN])
      | succ m => exact ⟨m, rfl⟩
    have hp := fun h => thg_pt (h := h) o.2.2
    obtain ⟨xs, e⟩ : ∃ xs, p.cv = .tup xs := by
      cases p with
      | row ds => exact ⟨_, Pt.cv_row ds⟩
      | alt a ps => exact ⟨_, Pt.cv_alt a ps⟩
      | again p a b => exact ⟨_, Pt.cv_again p a b⟩
    refine ⟨sAgain, xs, [.int (a : Int), .int (b : Int)], by rw [Pt.cv_again, e], by decide, ?_, fun y hy h => ?_, by simp, fun y hy h => ?_⟩
    · have := hp []
      rw [e] at this
      exact this.items.1
    · have := hp h
      rw [e] at this
      exact (this.items.2 y hy).up
    · simp only [List.mem_cons, List.not_mem_nil, or_false] at hy
      rcases hy with rfl | rfl <;> exact thg_int _ _
theorem run_spoilt273 (F : Fns) (W : Nat) (S : Sp3 F) {p : Nat} : ∀ (n d : Nat) (h : CH) (t : Pt), t.okN n → n ≤ d → Pk h p →
    ∃ (v : CV) (h' : CH), recF F W bsS d 273 [.ref p, t.cv] h = some (v, h') ∧ Thg h' (2 * n + 3) v ∧ Off [p] h h' ∧ Pk h' p := by
  intro n
  induction n with
  | zero => intro d h t o; exact absurd o (by simp [Pt.okN])
  | succ n ih =>
    intro d h t o hd q
    obtain ⟨d, rfl⟩ : ∃ e, d = e + 1 := ⟨d - 1, by omega⟩
    rw [s273]
    have g93 : recF F W bsS d 93 = F 93 := sne F W d 93 rfl
    have g272 : recF F W bsS d 272 = F 272 := sne F W d 272 rfl
    have here : ∀ h1 : CH, Off [p] h h1 → Pk h1 p → ∃ (v : CV) (h' : CH), F 272 [.ref p, t.cv] h1 = some (v, h') ∧ Thg h' (2 * (n + 1) + 3) v ∧ Off [p] h h' ∧ Pk h' p := fun h1 o1 q1 => by
      obtain ⟨w, ys, rest, ec, lw, ly, hy, lr, hr⟩ := pt_shape o
      obtain ⟨v, h', e, tv, o', q'⟩ := S.here h1 p (2 * n + 2) (.str w) ys rest q1 (fun h => thg_str _ lw) ly hy lr hr
      rw [ec]
      exact ⟨v, h', e, tv, o1.trans o', q'⟩
    cases t with
    | row ds =>
      have eq0 : ∀ h, cmpV .eq (.str sRow) (.str [114, 111, 119]) h = some true := fun h => by rw [eqS]; rfl
      have x0 : ∀ h, ixV (Pt.row ds).cv (.int 0) h = some (.str sRow) := fun h => by rw [Pt.cv_row, x_tup]; exact at0
      have x1 : ∀ h, ixV (Pt.row ds).cv (.int 1) h = some (.tup (ds.map Dd.cv)) := fun h => by rw [Pt.cv_row, x_tup]; exact at1
      obtain ⟨k, h1, e1, k0, k1, o1, q1⟩ := S.take h p 2 q (by decide) (by decide)
      by_cases hk : k = 0
      · subst hk
        have o2 : Off [] h1 (h1 ++ odT h1.length) := Off.app _ _ _
        obtain ⟨j, h3, e3, j0, j1, o3, q3⟩ := S.take _ p 10 (q1.keep o2 (by simp)) (by decide) (by decide)
        have l1 := q1.lt
        have ll : h1.length ≠ p := by omega
        have g0 := o3.get (i := h1.length) (o := .lst [.str [115, 101, 110, 100], .str [97], .str [98], .str [120]]) (by rw [get_at0]; rfl) (by simp; omega)
        have g3 := o3.get (i := h1.length + 3) (o := .lst (od1 h1.length ++ od2)) (by rw [get_at]; rfl) (by simp; omega)
        obtain ⟨v, ev, hv⟩ := atI_mem (xs := od1 h1.length ++ od2) j0 (by simpa [od1, od2] using j1)
        have tv := od_thg g0 hv
        have va : binV .add (.tup (ds.map Dd.cv)) (.tup [v]) h3 = some (.tup (ds.map Dd.cv ++ [v]), h3) := v_addT (lim_big (by rw [List.length_map]; have := o.1; simp; omega))
        refine ⟨.tup [.str sRow, .tup (ds.map Dd.cv ++ [v])], h3, ?_, ?_, o1.trans ((o2.mono (by simp)).trans o3), q3⟩
        · generalize (Pt.row ds).cv = P at x0 x1
          unfold odT od1 od2 at e3
          unfold od1 od2 at ev g3
          simp only [List.cons_append, List.nil_append] at ev g3 e3
          unfold sRow at eq0 x0 ⊢
          simp only [b273, n273, run_eq, List.length_cons, List.length_nil, List.map_cons, List.map_nil, List.cons_append, List.nil_append, List.replicate, List.set_cons_zero, List.set_cons_succ, x_cons, x_nil, seqC_nx, seqC_rt, x_asg, asgK_nm, asgK_sub, retS_some, retH_some, sub1_eq, sub2_eq, x_expr, exK_eq, x_ret, retK_eq, x_retn, x_iff, iffK_t, iffK_f, x_fo, x_pas, x_par, runK_nx, runK_rt, bindE_some, bindL_some, bindO_some, bindI_some, bindB_some, liftB_some, retV_some, asB_bl, bin1_eq, e_bin, cmpK_eq, cmp1_eq, e_cmp, cmpR_t, cmpR_f, cmp2a_eq, e_cmp2, cmpR3_t, cmpR3_f, cmp3a_eq, e_cmp3, e_and, e_or, andK_t, andK_f, orK_t, orK_f, bOut_eq, notK_eq, e_not, negK_int, e_neg, iteK_t, iteK_f, e_ite, tupK2_eq, e_tup, lstK_eq, e_lst, e_dct0, ixK_eq, ix1_eq, e_ix, sl1_eq, sl2_eq, e_sl, e_rev, o_no, o_ex, oK_int, e_call, e_bi, e_me, s_nil, s_cons, consA_eq, consB_eq, e_lit, e_glob, e_var0, e_varS, e_comp, i_range1, i_range2, r2a_eq, i_val, vK_tup, vK_str, t_lit, t_cmp, t_cmp2, t_cmp3, t_call, t_bi, t_var, t_and, t_or, t_not, andT_t, andT_f, orT_t, orT_f, notT_eq, v_add, v_sub, c_lt, c_le, c_gt, c_ge, c_eqI, c_neI, c_eqS, c_neS, c_isN, c_isnotN, c_isB, c_isnotB, x_tup, x_lstV, sl_lstV, sl_tup, b_lenT, b_lenV, decide_true, decide_false, Bool.not_true, Bool.not_false, at0, at1, at2, at3, Nat.reduceAdd, Nat.reduceSub, Nat.reduceMul, Int.reduceAdd, Int.reduceSub, Int.reduceMul, Int.reduceNeg, Int.reduceLT, Int.reduceLE, Int.reduceToNat, Int.cast_ofNat_Int, get_at, get_at0, set_at, set_at0, v_addR, addO_ok, b_lenR, lenO_lst, x_ref, ixO_lst, sl_ref, slO_lst, set_ref, m_appR, appO_lst, b_allR, b_anyR, b_listT, vK_ref, vO_lst, me1_app, recO_lst, when_t, List.append_assoc, List.length_append, List.getElem?_cons_zero, List.getElem?_cons_succ, Nat.zero_add, lim_big, lim_lt, Nat.reduceLeDiff, Nat.reduceLT, x0, eq0, g93, e1, e3, x1, x_lst g3, ev, va]
        · refine thg_tup (n := 2 * n + 4) (by simp) fun x hx => ?_
          simp only [List.mem_cons, List.not_mem_nil, or_false] at hx
          rcases hx with rfl | rfl
          · exact thg_str _ (by decide)
          · refine thg_tup (n := 2 * n + 3) (by rw [List.length_append, List.length_map]; have := o.1; simp; omega) fun x hx => ?_
            rcases List.mem_append.mp hx with hx | hx
            · obtain ⟨d', hd', rfl⟩ := List.mem_map.mp hx
              exact thg_dd _ (o.2 d' hd')
            · rw [List.mem_singleton.mp hx]; exact tv.le (by omega)
      · obtain ⟨v, h', ev, tv, o', q'⟩ := here h1 o1 q1
        refine ⟨v, h', ?_, tv, o', q'⟩
        generalize (Pt.row ds).cv = P at x0 x1 ev
        unfold sRow at eq0 x0
        simp only [b273, n273, run_eq, List.length_cons, List.length_nil, List.map_cons, List.map_nil, List.cons_append, List.nil_append, List.replicate, List.set_cons_zero, List.set_cons_succ, x_cons, x_nil, seqC_nx, seqC_rt, x_asg, asgK_nm, asgK_sub, retS_some, retH_some, sub1_eq, sub2_eq, x_expr, exK_eq, x_ret, retK_eq, x_retn, x_iff, iffK_t, iffK_f, x_fo, x_pas, x_par, runK_nx, runK_rt, bindE_some, bindL_some, bindO_some, bindI_some, bindB_some, liftB_some, retV_some, asB_bl, bin1_eq, e_bin, cmpK_eq, cmp1_eq, e_cmp, cmpR_t, cmpR_f, cmp2a_eq, e_cmp2, cmpR3_t, cmpR3_f, cmp3a_eq, e_cmp3, e_and, e_or, andK_t, andK_f, orK_t, orK_f, bOut_eq, notK_eq, e_not, negK_int, e_neg, iteK_t, iteK_f, e_ite, tupK2_eq, e_tup, lstK_eq, e_lst, e_dct0, ixK_eq, ix1_eq, e_ix, sl1_eq, sl2_eq, e_sl, e_rev, o_no, o_ex, oK_int, e_call, e_bi, e_me, s_nil, s_cons, consA_eq, consB_eq, e_lit, e_glob, e_var0, e_varS, e_comp, i_range1, i_range2, r2a_eq, i_val, vK_tup, vK_str, t_lit, t_cmp, t_cmp2, t_cmp3, t_call, t_bi, t_var, t_and, t_or, t_not, andT_t, andT_f, orT_t, orT_f, notT_eq, v_add, v_sub, c_lt, c_le, c_gt, c_ge, c_eqI, c_neI, c_eqS, c_neS, c_isN, c_isnotN, c_isB, c_isnotB, x_tup, x_lstV, sl_lstV, sl_tup, b_lenT, b_lenV, decide_true, decide_false, Bool.not_true, Bool.not_false, x0, eq0, g93, e1, hk, g272, ev]
    | alt a ps =>
      have eq0 : ∀ h, cmpV .eq (.str (altW a)) (.str [114, 111, 119]) h = some false := fun h => by rw [eqS]; cases a <;> rfl
      have eq1 : ∀ h, cmpV .eq (.str (altW a)) (.str [97, 103, 97, 105, 110]) h = some false := fun h => by rw [eqS]; cases a <;> rfl
      have x0 : ∀ h, ixV (Pt.alt a ps).cv (.int 0) h = some (.str (altW a)) := fun h => by rw [Pt.cv_alt, x_tup]; exact at0
      have x1 : ∀ h, ixV (Pt.alt a ps).cv (.int 1) h = some (.tup (ps.map Pt.cv)) := fun h => by rw [Pt.cv_alt, x_tup]; exact at1
      obtain ⟨k, h1, e1, k0, k1, o1, q1⟩ := S.take h p 3 q (by decide) (by decide)
      by_cases hk : k = 0
      · obtain ⟨v, h', ev, tv, o', q'⟩ := here h1 o1 q1
        refine ⟨v, h', ?_, tv, o', q'⟩
        generalize (Pt.alt a ps).cv = P at x0 x1 ev
        simp only [b273, n273, run_eq, List.length_cons, List.length_nil, List.map_cons, List.map_nil, List.cons_append, List.nil_append, List.replicate, List.set_cons_zero, List.set_cons_succ, x_cons, x_nil, seqC_nx, seqC_rt, x_asg, asgK_nm, asgK_sub, retS_some, retH_some, sub1_eq, sub2_eq, x_expr, exK_eq, x_ret, retK_eq, x_retn, x_iff, iffK_t, iffK_f, x_fo, x_pas, x_par, runK_nx, runK_rt, bindE_some, bindL_some, bindO_some, bindI_some, bindB_some, liftB_some, retV_some, asB_bl, bin1_eq, e_bin, cmpK_eq, cmp1_eq, e_cmp, cmpR_t, cmpR_f, cmp2a_eq, e_cmp2, cmpR3_t, cmpR3_f, cmp3a_eq, e_cmp3, e_and, e_or, andK_t, andK_f, orK_t, orK_f, bOut_eq, notK_eq, e_not, negK_int, e_neg, iteK_t, iteK_f, e_ite, tupK2_eq, e_tup, lstK_eq, e_lst, e_dct0, ixK_eq, ix1_eq, e_ix, sl1_eq, sl2_eq, e_sl, e_rev, o_no, o_ex, oK_int, e_call, e_bi, e_me, s_nil, s_cons, consA_eq, consB_eq, e_lit, e_glob, e_var0, e_varS, e_comp, i_range1, i_range2, r2a_eq, i_val, vK_tup, vK_str, t_lit, t_cmp, t_cmp2, t_cmp3, t_call, t_bi, t_var, t_and, t_or, t_not, andT_t, andT_f, orT_t, orT_f, notT_eq, v_add, v_sub, c_lt, c_le, c_gt, c_ge, c_eqI, c_neI, c_eqS, c_neS, c_isN, c_isnotN, c_isB, c_isnotB, x_tup, x_lstV, sl_lstV, sl_tup, b_lenT, b_lenV, decide_true, decide_false, Bool.not_true, Bool.not_false, x0, eq0, g93, e1, hk, g272, ev]
      · have hpos : 1 ≤ ps.length := List.length_pos_iff.mpr o.1
        have l3 := o.2.1
        obtain ⟨j, h2, e2, j0, j1, o2, q2⟩ := S.take h1 p (ps.length : Int) q1 (by omega) (by omega)
        obtain ⟨j, rfl⟩ : ∃ z : Nat, j = (z : Int) := ⟨j.toNat, by omega⟩
        have hj : j < ps.length := by omega
        have bl : biV .len [.tup (ps.map Pt.cv)] h1 = some (.int (ps.length : Int), h1) := by rw [b_lenT, List.length_map]
        have xj : ∀ h, ixV (.tup (ps.map Pt.cv)) (.int (j : Int)) h = some (ps[j]'hj).cv := fun h => by rw [x_tup, atI_nat, List.getElem?_map, List.getElem?_eq_getElem hj]; rfl
        obtain ⟨v, h3, e3, tv, o3, q3⟩ := ih d h2 (ps[j]'hj) (o.2.2 _ (List.getElem_mem hj)) (by omega) q2
        have c1 : ∀ h, slV (.tup (ps.map Pt.cv)) none (some (j : Int)) h = some (.tup ((ps.take j).map Pt.cv), h) := fun h => by rw [sl_tup, cut_to, List.map_take]
        have c2 : ∀ h, slV (.tup (ps.map Pt.cv)) (some ((j : Int) + 1)) none h = some (.tup ((ps.drop (j + 1)).map Pt.cv), h) := fun h => by rw [sl_tup, show (j : Int) + 1 = ((j + 1 : Nat) : Int) by omega, cut_from, List.map_drop]
        have va1 : binV .add (.tup ((ps.take j).map Pt.cv)) (.tup [v]) h3 = some (.tup ((ps.take j).map Pt.cv ++ [v]), h3) := v_addT (lim_big (by rw [List.length_map, List.length_take]; simp; omega))
        have va2 : binV .add (.tup ((ps.take j).map Pt.cv ++ [v])) (.tup ((ps.drop (j + 1)).map Pt.cv)) h3 = some (.tup ((ps.take j).map Pt.cv ++ [v] ++ (ps.drop (j + 1)).map Pt.cv), h3) := v_addT (lim_big (by simp; omega))
        refine ⟨.tup [.str (altW a), .tup ((ps.take j).map Pt.cv ++ [v] ++ (ps.drop (j + 1)).map Pt.cv)], h3, ?_, ?_, o1.trans (o2.trans o3), q3⟩
        · generalize (Pt.alt a ps).cv = P at x0 x1
          generalize (ps[j]'hj).cv = Q at xj e3
          simp only [b273, n273, run_eq, List.length_cons, List.length_nil, List.map_cons, List.map_nil, List.cons_append, List.nil_append, List.replicate, List.set_cons_zero, List.set_cons_succ, x_cons, x_nil, seqC_nx, seqC_rt, x_asg, asgK_nm, asgK_sub, retS_some, retH_some, sub1_eq, sub2_eq, x_expr, exK_eq, x_ret, retK_eq, x_retn, x_iff, iffK_t, iffK_f, x_fo, x_pas, x_par, runK_nx, runK_rt, bindE_some, bindL_some, bindO_some, bindI_some, bindB_some, liftB_some, retV_some, asB_bl, bin1_eq, e_bin, cmpK_eq, cmp1_eq, e_cmp, cmpR_t, cmpR_f, cmp2a_eq, e_cmp2, cmpR3_t, cmpR3_f, cmp3a_eq, e_cmp3, e_and, e_or, andK_t, andK_f, orK_t, orK_f, bOut_eq, notK_eq, e_not, negK_int, e_neg, iteK_t, iteK_f, e_ite, tupK2_eq, e_tup, lstK_eq, e_lst, e_dct0, ixK_eq, ix1_eq, e_ix, sl1_eq, sl2_eq, e_sl, e_rev, o_no, o_ex, oK_int, e_call, e_bi, e_me, s_nil, s_cons, consA_eq, consB_eq, e_lit, e_glob, e_var0, e_varS, e_comp, i_range1, i_range2, r2a_eq, i_val, vK_tup, vK_str, t_lit, t_cmp, t_cmp2, t_cmp3, t_call, t_bi, t_var, t_and, t_or, t_not, andT_t, andT_f, orT_t, orT_f, notT_eq, v_add, v_sub, c_lt, c_le, c_gt, c_ge, c_eqI, c_neI, c_eqS, c_neS, c_isN, c_isnotN, c_isB, c_isnotB, x_tup, x_lstV, sl_lstV, sl_tup, b_lenT, b_lenV, decide_true, decide_false, Bool.not_true, Bool.not_false, x0, eq0, g93, e1, hk, eq1, x1, bl, e2, c1, xj, e3, va1, c2, va2]
        · refine thg_tup (n := 2 * n + 4) (by simp) fun x hx => ?_
          simp only [List.mem_cons, List.not_mem_nil, or_false] at hx
          rcases hx with rfl | rfl
          · exact thg_str _ (by cases a <;> decide)
          · refine thg_tup (n := 2 * n + 3) (by simp; omega) fun x hx => ?_
            have kp : ∀ p ∈ ps, Thg h3 (2 * n + 3) p.cv := fun p hp => (thg_pt (o.2.2 p hp)).le (by omega)
            rcases List.mem_append.mp hx with hx | hx
            · rcases List.mem_append.mp hx with hx | hx
              · obtain ⟨p', hp', rfl⟩ := List.mem_map.mp hx
                exact kp p' (List.mem_of_mem_take hp')
              · rw [List.mem_singleton.mp hx]; exact tv
            · obtain ⟨p', hp', rfl⟩ := List.mem_map.mp hx
              exact kp p' (List.mem_of_mem_drop hp')
    | again t1 a b =>
      have eq0 : ∀ h, cmpV .eq (.str sAgain) (.str [114, 111, 119]) h = some false := fun h => by rw [eqS]; rfl
      have eq1 : ∀ h, cmpV .eq (.str sAgain) (.str [97, 103, 97, 105, 110]) h = some true := fun h => by rw [eqS]; rfl
      have x0 : ∀ h, ixV (Pt.again t1 a b).cv (.int 0) h = some (.str sAgain) := fun h => by rw [Pt.cv_again, x_tup]; exact at0
      have x1 : ∀ h, ixV (Pt.again t1 a b).cv (.int 1) h = some t1.cv := fun h => by rw [Pt.cv_again, x_tup]; exact at1
      have s2 : ∀ h, slV (Pt.again t1 a b).cv (some 2) none h = some (.tup [.int (a : Int), .int (b : Int)], h) := fun h => by rw [Pt.cv_again, sl_tup, show (2 : Int) = ((2 : Nat) : Int) from rfl, cut_from]; rfl
      obtain ⟨k, h1, e1, k0, k1, o1, q1⟩ := S.take h p 3 q (by decide) (by decide)
      by_cases hk : k = 0
      · obtain ⟨v, h', ev, tv, o', q'⟩ := here h1 o1 q1
        refine ⟨v, h', ?_, tv, o', q'⟩
        generalize (Pt.again t1 a b).cv = P at x0 x1 ev s2
        unfold sAgain at eq0 x0
        simp only [b273, n273, run_eq, List.length_cons, List.length_nil, List.map_cons, List.map_nil, List.cons_append, List.nil_append, List.replicate, List.set_cons_zero, List.set_cons_succ, x_cons, x_nil, seqC_nx, seqC_rt, x_asg, asgK_nm, asgK_sub, retS_some, retH_some, sub1_eq, sub2_eq, x_expr, exK_eq, x_ret, retK_eq, x_retn, x_iff, iffK_t, iffK_f, x_fo, x_pas, x_par, runK_nx, runK_rt, bindE_some, bindL_some, bindO_some, bindI_some, bindB_some, liftB_some, retV_some, asB_bl, bin1_eq, e_bin, cmpK_eq, cmp1_eq, e_cmp, cmpR_t, cmpR_f, cmp2a_eq, e_cmp2, cmpR3_t, cmpR3_f, cmp3a_eq, e_cmp3, e_and, e_or, andK_t, andK_f, orK_t, orK_f, bOut_eq, notK_eq, e_not, negK_int, e_neg, iteK_t, iteK_f, e_ite, tupK2_eq, e_tup, lstK_eq, e_lst, e_dct0, ixK_eq, ix1_eq, e_ix, sl1_eq, sl2_eq, e_sl, e_rev, o_no, o_ex, oK_int, e_call, e_bi, e_me, s_nil, s_cons, consA_eq, consB_eq, e_lit, e_glob, e_var0, e_varS, e_comp, i_range1, i_range2, r2a_eq, i_val, vK_tup, vK_str, t_lit, t_cmp, t_cmp2, t_cmp3, t_call, t_bi, t_var, t_and, t_or, t_not, andT_t, andT_f, orT_t, orT_f, notT_eq, v_add, v_sub, c_lt, c_le, c_gt, c_ge, c_eqI, c_neI, c_eqS, c_neS, c_isN, c_isnotN, c_isB, c_isnotB, x_tup, x_lstV, sl_lstV, sl_tup, b_lenT, b_lenV, decide_true, decide_false, Bool.not_true, Bool.not_false, x0, eq0, g93, e1, hk, g272, ev]
      · obtain ⟨v, h3, e3, tv, o3, q3⟩ := ih d h1 t1 o.2.2 (by omega) q1
        have va : binV .add (.tup [.str sAgain, v]) (.tup [.int (a : Int), .int (b : Int)]) h3 = some (.tup [.str sAgain, v, .int (a : Int), .int (b : Int)], h3) := by rw [v_addT (lim_big (by simp))]; rfl
        refine ⟨.tup [.str sAgain, v, .int (a : Int), .int (b : Int)], h3, ?_, ?_, o1.trans o3, q3⟩
        · generalize (Pt.again t1 a b).cv = P at x0 x1 s2
          unfold sAgain at eq0 eq1 x0 va ⊢
          simp only [b273, n273, run_eq, List.length_cons, List.length_nil, List.map_cons, List.map_nil, List.cons_append, List.nil_append, List.replicate, List.set_cons_zero, List.set_cons_succ, x_cons, x_nil, seqC_nx, seqC_rt, x_asg, asgK_nm, asgK_sub, retS_some, retH_some, sub1_eq, sub2_eq, x_expr, exK_eq, x_ret, retK_eq, x_retn, x_iff, iffK_t, iffK_f, x_fo, x_pas, x_par, runK_nx, runK_rt, bindE_some, bindL_some, bindO_some, bindI_some, bindB_some, liftB_some, retV_some, asB_bl, bin1_eq, e_bin, cmpK_eq, cmp1_eq, e_cmp, cmpR_t, cmpR_f, cmp2a_eq, e_cmp2, cmpR3_t, cmpR3_f, cmp3a_eq, e_cmp3, e_and, e_or, andK_t, andK_f, orK_t, orK_f, bOut_eq, notK_eq, e_not, negK_int, e_neg, iteK_t, iteK_f, e_ite, tupK2_eq, e_tup, lstK_eq, e_lst, e_dct0, ixK_eq, ix1_eq, e_ix, sl1_eq, sl2_eq, e_sl, e_rev, o_no, o_ex, oK_int, e_call, e_bi, e_me, s_nil, s_cons, consA_eq, consB_eq, e_lit, e_glob, e_var0, e_varS, e_comp, i_range1, i_range2, r2a_eq, i_val, vK_tup, vK_str, t_lit, t_cmp, t_cmp2, t_cmp3, t_call, t_bi, t_var, t_and, t_or, t_not, andT_t, andT_f, orT_t, orT_f, notT_eq, v_add, v_sub, c_lt, c_le, c_gt, c_ge, c_eqI, c_neI, c_eqS, c_neS, c_isN, c_isnotN, c_isB, c_isnotB, x_tup, x_lstV, sl_lstV, sl_tup, b_lenT, b_lenV, decide_true, decide_false, Bool.not_true, Bool.not_false, x0, eq0, g93, e1, hk, eq1, x1, e3, s2, va]
        · refine thg_tup (n := 2 * n + 4) (by simp) fun x hx => ?_
          simp only [List.mem_cons, List.not_mem_nil, or_false] at hx
          rcases hx with rfl | rfl | rfl | rfl
          · exact thg_str _ (by decide)
          · exact tv.up
          · exact thg_int _ _
          · exact thg_int _ _
end TH

/-! Law k26. -/
namespace TH
open PySem
theorem nt240 (F : Fns) (W d : Nat) {h : CH} {v : CV} (t : Typ h v) (e : isTup v = false) : recF F W bsP (d + 1) 240 [v] h = some (.bl false, h) := by
  rw [p240]
  simp only [b240, n240, run_eq, List.length_cons, List.length_nil, List.map_cons, List.map_nil, List.cons_append, List.nil_append, List.replicate, List.set_cons_zero, List.set_cons_succ, x_cons, x_nil, seqC_nx, seqC_rt, x_asg, asgK_nm, asgK_sub, retS_some, retH_some, sub1_eq, sub2_eq, x_expr, exK_eq, x_ret, retK_eq, x_retn, x_iff, iffK_t, iffK_f, x_fo, x_pas, x_par, runK_nx, runK_rt, bindE_some, bindL_some, bindO_some, bindI_some, bindB_some, liftB_some, retV_some, asB_bl, bin1_eq, e_bin, cmpK_eq, cmp1_eq, e_cmp, cmpR_t, cmpR_f, cmp2a_eq, e_cmp2, cmpR3_t, cmpR3_f, cmp3a_eq, e_cmp3, e_and, e_or, andK_t, andK_f, orK_t, orK_f, bOut_eq, notK_eq, e_not, negK_int, e_neg, iteK_t, iteK_f, e_ite, tupK2_eq, e_tup, lstK_eq, e_lst, e_dct0, ixK_eq, ix1_eq, e_ix, sl1_eq, sl2_eq, e_sl, e_rev, o_no, o_ex, oK_int, e_call, e_bi, e_me, s_nil, s_cons, consA_eq, consB_eq, e_lit, e_glob, e_var0, e_varS, e_comp, i_range1, i_range2, r2a_eq, i_val, vK_tup, vK_str, t_lit, t_cmp, t_cmp2, t_cmp3, t_call, t_bi, t_var, t_and, t_or, t_not, andT_t, andT_f, orT_t, orT_f, notT_eq, v_add, v_sub, c_lt, c_le, c_gt, c_ge, c_eqI, c_neI, c_eqS, c_neS, c_isN, c_isnotN, c_isB, c_isnotB, x_tup, x_lstV, sl_lstV, sl_tup, b_lenT, b_lenV, decide_true, decide_false, Bool.not_true, Bool.not_false, b_isi (i_tup t), e]
theorem nt270 (F : Fns) (W d : Nat) {h : CH} {v : CV} (t : Typ h v) (e : isTup v = false) : recF F W bsL (d + 1) 270 [v] h = some (.bl false, h) := by
  rw [p270]
  simp only [b270, n270, run_eq, List.length_cons, List.length_nil, List.map_cons, List.map_nil, List.cons_append, List.nil_append, List.replicate, List.set_cons_zero, List.set_cons_succ, x_cons, x_nil, seqC_nx, seqC_rt, x_asg, asgK_nm, asgK_sub, retS_some, retH_some, sub1_eq, sub2_eq, x_expr, exK_eq, x_ret, retK_eq, x_retn, x_iff, iffK_t, iffK_f, x_fo, x_pas, x_par, runK_nx, runK_rt, bindE_some, bindL_some, bindO_some, bindI_some, bindB_some, liftB_some, retV_some, asB_bl, bin1_eq, e_bin, cmpK_eq, cmp1_eq, e_cmp, cmpR_t, cmpR_f, cmp2a_eq, e_cmp2, cmpR3_t, cmpR3_f, cmp3a_eq, e_cmp3, e_and, e_or, andK_t, andK_f, orK_t, orK_f, bOut_eq, notK_eq, e_not, negK_int, e_neg, iteK_t, iteK_f, e_ite, tupK2_eq, e_tup, lstK_eq, e_lst, e_dct0, ixK_eq, ix1_eq, e_ix, sl1_eq, sl2_eq, e_sl, e_rev, o_no, o_ex, oK_int, e_call, e_bi, e_me, s_nil, s_cons, consA_eq, consB_eq, e_lit, e_glob, e_var0, e_varS, e_comp, i_range1, i_range2, r2a_eq, i_val, vK_tup, vK_str, t_lit, t_cmp, t_cmp2, t_cmp3, t_call, t_bi, t_var, t_and, t_or, t_not, andT_t, andT_f, orT_t, orT_f, notT_eq, v_add, v_sub, c_lt, c_le, c_gt, c_ge, c_eqI, c_neI, c_eqS, c_neS, c_isN, c_isnotN, c_isB, c_isnotB, x_tup, x_lstV, sl_lstV, sl_tup, b_lenT, b_lenV, decide_true, decide_false, Bool.not_true, Bool.not_false, b_isi (i_tup t), e]
/-- of a thing both tell the same -/
def Same2 (F : Fns) (h : CH) (v : CV) : Prop := ∀ h1, Off [] h h1 → ∃ b h', F 240 [v] h1 = some (.bl b, h') ∧ Off [] h1 h' ∧ ∀ h2, Off [] h h2 → ∃ h3, F 270 [v] h2 = some (.bl b, h3) ∧ Off [] h2 h3
structure Rl26 (F : Fns) : Prop where
  pack : ∀ (h : CH) (ns : List Int) (k : Nat), k ≤ 100 → (∀ z ∈ ns, z.natAbs < 2 ^ 1048576) → ∃ h', F 217 [.lst (ns.map CV.int), .int (k : Int)] h = some (.ref h.length, h') ∧ Off [] h h' ∧ Pk h' h.length
  hands : ∀ (h : CH) (p : Nat), Pk h p → ∃ (r : Nat) (ks : List (List Nat)) (h' : CH), F 218 [.ref p] h = some (.ref r, h') ∧ h'[r]? = some (.lst (ks.map .str)) ∧ 2 ≤ ks.length ∧ ks.length ≤ 4 ∧ h.length ≤ r ∧ Off [p] h h' ∧ Pk h' p ∧ ks.Nodup ∧ ∀ k ∈ ks, Nm k
  take : Takes F
  plot : ∀ (h : CH) (p r n : Nat) (ks : List (List Nat)), r ≠ p → 2 ≤ ks.length → ks.length ≤ 1000 → ks.Nodup → (∀ k ∈ ks, Nm k) → n ≤ 3 → Pk h p → h[r]? = some (.lst (ks.map .str)) →
    ∃ (t : Pt) (h' : CH), F 267 [.ref p, .ref r, .int (n : Int)] h = some (t.cv, h') ∧ t.okN (n + 1) ∧ Off [p] h h' ∧ Pk h' p
  isp : ∀ (h : CH) (n : Nat) (v : CV), Thg h n v → n ≤ 13 → ∃ h', F 240 [v] h = some (.bl (plotV n v), h') ∧ Off [] h h'
  lisp : ∀ (h : CH) (n : Nat) (v : CV), Thg h n v → n ≤ 13 → ∃ h', F 270 [v] h = some (.bl (plotV n v), h') ∧ Off [] h h'
  isp0 : ∀ (h : CH) (v : CV), Typ h v → isTup v = false → F 240 [v] h = some (.bl false, h)
  lisp0 : ∀ (h : CH) (v : CV), Typ h v → isTup v = false → F 270 [v] h = some (.bl false, h)
  same : ∀ (h : CH) (a b : Bool), F 271 [.bl a, .bl b] h = some (.bl (a == b), h)
  spoil : ∀ (h : CH) (p n : Nat) (t : Pt), t.okN n → n ≤ 4 → Pk h p → ∃ (v : CV) (h' : CH), F 273 [.ref p, t.cv] h = some (v, h') ∧ Thg h' (2 * n + 3) v ∧ Off [p] h h' ∧ Pk h' p
theorem same2_thg {F : Fns} (R : Rl26 F) {h : CH} {n : Nat} {v : CV} (t : Thg h n v) (hn : n ≤ 13) : Same2 F h v := fun h1 o1 => by
  obtain ⟨h', e, o⟩ := R.isp h1 n v (t.off o1) hn
  exact ⟨_, h', e, o, fun h2 o2 => R.lisp h2 n v (t.off o2) hn⟩
theorem same2_nt {F : Fns} (R : Rl26 F) {h : CH} {v : CV} (t : Typ h v) (e : isTup v = false) : Same2 F h v := fun h1 o1 =>
  ⟨false, h1, R.isp0 h1 v (t.off o1) e, .refl _ _, fun h2 o2 => ⟨h2, R.lisp0 h2 v (t.off o2) e, .refl _ _⟩⟩
def ask274 : CSs := (.cons (.iff (.not (.call 271 (.cons (.call 240 (.cons (.var 6) .nil)) (.cons (.call 270 (.cons (.var 6) .nil)) .nil)))) (.cons (.ret (.lit (.bl false))) .nil) .nil) .nil)
theorem ask274_ev (F : Fns) (W : Nat) (R : Rl26 F) {h : CH} {v : CV} {x0 x1 x2 x3 x4 x5 : Option CV} (s2 : Same2 F h v) : ∃ h', execCs F W ask274 [x0, x1, x2, x3, x4, x5, some v] h = some (.nx, [x0, x1, x2, x3, x4, x5, some v], h') ∧ Off [] h h' := by
  obtain ⟨b, h1, e1, o1, k⟩ := s2 h (.refl _ _)
  obtain ⟨h2, e2, o2⟩ := k h1 o1
  have e3 := R.same h2 b b
  rw [show (b == b) = true from beq_self_eq_true b] at e3
  exact ⟨h2, by simp only [ask274, run_eq, List.length_cons, List.length_nil, List.map_cons, List.map_nil, List.cons_append, List.nil_append, List.replicate, List.set_cons_zero, List.set_cons_succ, x_cons, x_nil, seqC_nx, seqC_rt, x_asg, asgK_nm, asgK_sub, retS_some, retH_some, sub1_eq, sub2_eq, x_expr, exK_eq, x_ret, retK_eq, x_retn, x_iff, iffK_t, iffK_f, x_fo, x_pas, x_par, runK_nx, runK_rt, bindE_some, bindL_some, bindO_some, bindI_some, bindB_some, liftB_some, retV_some, asB_bl, bin1_eq, e_bin, cmpK_eq, cmp1_eq, e_cmp, cmpR_t, cmpR_f, cmp2a_eq, e_cmp2, cmpR3_t, cmpR3_f, cmp3a_eq, e_cmp3, e_and, e_or, andK_t, andK_f, orK_t, orK_f, bOut_eq, notK_eq, e_not, negK_int, e_neg, iteK_t, iteK_f, e_ite, tupK2_eq, e_tup, lstK_eq, e_lst, e_dct0, ixK_eq, ix1_eq, e_ix, sl1_eq, sl2_eq, e_sl, e_rev, o_no, o_ex, oK_int, e_call, e_bi, e_me, s_nil, s_cons, consA_eq, consB_eq, e_lit, e_glob, e_var0, e_varS, e_comp, i_range1, i_range2, r2a_eq, i_val, vK_tup, vK_str, t_lit, t_cmp, t_cmp2, t_cmp3, t_call, t_bi, t_var, t_and, t_or, t_not, andT_t, andT_f, orT_t, orT_f, notT_eq, v_add, v_sub, c_lt, c_le, c_gt, c_ge, c_eqI, c_neI, c_eqS, c_neS, c_isN, c_isnotN, c_isB, c_isnotB, x_tup, x_lstV, sl_lstV, sl_tup, b_lenT, b_lenV, decide_true, decide_false, Bool.not_true, Bool.not_false, e1, e2, e3], o1.trans o2⟩
def in274 : CSs := (.cons (.asg (.nm 6) (.call 273 (.cons (.var 2) (.cons (.var 4) .nil)))) (.cons (.iff (.not (.call 271 (.cons (.call 240 (.cons (.var 6) .nil)) (.cons (.call 270 (.cons (.var 6) .nil)) .nil)))) (.cons (.ret (.lit (.bl false))) .nil) .nil) .nil))
def out274 : CSs := (.cons (.asg (.nm 2) (.call 217 (.cons (.var 0) (.cons (.var 1) .nil)))) (.cons (.asg (.nm 3) (.call 218 (.cons (.var 2) .nil))) (.cons (.asg (.nm 4) (.call 267 (.cons (.var 2) (.cons (.var 3) (.cons (.bin .add (.lit (.int 1)) (.call 93 (.cons (.var 2) (.cons (.lit (.int 3)) .nil)))) .nil))))) (.cons (.iff (.cmp .isnot (.call 240 (.cons (.var 4) .nil)) (.lit (.bl true))) (.cons (.ret (.lit (.bl false))) .nil) .nil) (.cons (.fo (.nm 5) (.range1 (.lit (.int 3))) (.cons (.asg (.nm 6) (.call 273 (.cons (.var 2) (.cons (.var 4) .nil)))) (.cons (.iff (.not (.call 271 (.cons (.call 240 (.cons (.var 6) .nil)) (.cons (.call 270 (.cons (.var 6) .nil)) .nil)))) (.cons (.ret (.lit (.bl false))) .nil) .nil) .nil))) .nil)))))
theorem in274_eq : in274 = .cons (.asg (.nm 6) (.call 273 (.cons (.var 2) (.cons (.var 4) .nil)))) ask274 := rfl
theorem in274_ev (F : Fns) (W : Nat) (R : Rl26 F) {h : CH} {p n : Nat} {t : Pt} {x0 x1 x3 x5 x6 : Option CV} (q : Pk h p) (o : t.okN n) (hn : n ≤ 4) : ∃ y6 h', execCs F W in274 [x0, x1, some (.ref p), x3, some t.cv, x5, x6] h = some (.nx, [x0, x1, some (.ref p), x3, some t.cv, x5, y6], h') ∧ Off [p] h h' ∧ Pk h' p := by
  obtain ⟨v, h1, e1, tv, o1, q1⟩ := R.spoil h p n t o hn q
  obtain ⟨h2, e2, o2⟩ := ask274_ev F W R (x0 := x0) (x1 := x1) (x2 := some (.ref p)) (x3 := x3) (x4 := some t.cv) (x5 := x5) (same2_thg R tv (by omega))
  refine ⟨some v, h2, ?_, o1.trans (o2.mono (by simp)), q1.keep o2 (by simp)⟩
  rw [in274_eq]
  generalize ask274 = B at e2 ⊢
  generalize t.cv = T at e1 e2 ⊢
  simp only [run_eq, List.length_cons, List.length_nil, List.map_cons, List.map_nil, List.cons_append, List.nil_append, List.replicate, List.set_cons_zero, List.set_cons_succ, x_cons, x_nil, seqC_nx, seqC_rt, x_asg, asgK_nm, asgK_sub, retS_some, retH_some, sub1_eq, sub2_eq, x_expr, exK_eq, x_ret, retK_eq, x_retn, x_iff, iffK_t, iffK_f, x_fo, x_pas, x_par, runK_nx, runK_rt, bindE_some, bindL_some, bindO_some, bindI_some, bindB_some, liftB_some, retV_some, asB_bl, bin1_eq, e_bin, cmpK_eq, cmp1_eq, e_cmp, cmpR_t, cmpR_f, cmp2a_eq, e_cmp2, cmpR3_t, cmpR3_f, cmp3a_eq, e_cmp3, e_and, e_or, andK_t, andK_f, orK_t, orK_f, bOut_eq, notK_eq, e_not, negK_int, e_neg, iteK_t, iteK_f, e_ite, tupK2_eq, e_tup, lstK_eq, e_lst, e_dct0, ixK_eq, ix1_eq, e_ix, sl1_eq, sl2_eq, e_sl, e_rev, o_no, o_ex, oK_int, e_call, e_bi, e_me, s_nil, s_cons, consA_eq, consB_eq, e_lit, e_glob, e_var0, e_varS, e_comp, i_range1, i_range2, r2a_eq, i_val, vK_tup, vK_str, t_lit, t_cmp, t_cmp2, t_cmp3, t_call, t_bi, t_var, t_and, t_or, t_not, andT_t, andT_f, orT_t, orT_f, notT_eq, v_add, v_sub, c_lt, c_le, c_gt, c_ge, c_eqI, c_neI, c_eqS, c_neS, c_isN, c_isnotN, c_isB, c_isnotB, x_tup, x_lstV, sl_lstV, sl_tup, b_lenT, b_lenV, decide_true, decide_false, Bool.not_true, Bool.not_false, e1, e2]
theorem out274_ev (F : Fns) (W : Nat) (R : Rl26 F) (ns : List Int) (hb : ∀ z ∈ ns, z.natAbs < 2 ^ 1048576) {h : CH} {j : Nat} (hj : j ≤ 100) {x2 x3 x4 x5 x6 : Option CV} :
    ∃ y2 y3 y4 y5 y6 h', execCs F W out274 [some (.lst (ns.map CV.int)), some (.int (j : Int)), x2, x3, x4, x5, x6] h = some (.nx, [some (.lst (ns.map CV.int)), some (.int (j : Int)), y2, y3, y4, y5, y6], h') := by
  obtain ⟨h1, e1, o1, q1⟩ := R.pack h ns j hj hb
  obtain ⟨r, ks, h2, e2, g2, k1, k2, hr, o2, q2, nd, nm⟩ := R.hands h1 h.length q1
  have lq := q1.lt
  obtain ⟨m, h3, e3, m0, m1, o3, q3⟩ := R.take h2 h.length 3 q2 (by decide) (by decide)
  obtain ⟨m, rfl⟩ : ∃ z : Nat, m = (z : Int) := ⟨m.toNat, by omega⟩
  obtain ⟨t, h4, e4, ok, o4, q4⟩ := R.plot h3 h.length r (m + 1) ks (by omega) k1 (by omega) nd nm (by omega) q3 (o3.get g2 (by simp; omega))
  rw [show ((m + 1 : Nat) : Int) = 1 + (m : Int) by omega] at e4
  obtain ⟨h5, e5, o5⟩ := R.isp h4 (2 * (m + 1 + 1) + 1) t.cv (thg_pt ok) (by omega)
  have pv : plotV (2 * (m + 1 + 1) + 1) t.cv = true := plotV_cv (ok.le (by omega))
  rw [pv] at e5
  have q5 := q4.keep o5 (by simp)
  obtain ⟨s', h6, ef, y5, y6, rfl, q6⟩ := foK_inv (F := F) (W := W) (t := .nm 5) (b := in274) (src := .ints 0 3) (s := [some (.lst (ns.map CV.int)), some (.int (j : Int)), some (.ref h.length), some (.ref r), some t.cv, x5, x6]) (h := h5)
    (fun _ s hh => ∃ y5 y6, s = [some (.lst (ns.map CV.int)), some (.int (j : Int)), some (.ref h.length), some (.ref r), some t.cv, y5, y6] ∧ Pk hh h.length)
    ⟨x5, x6, rfl, q5⟩
    (fun i s hh hi ⟨y5, y6, es, qq⟩ => by
      subst es
      rw [src_intsL] at hi
      obtain ⟨z6, h', e, o, q'⟩ := in274_ev F W R (x0 := some (.lst (ns.map CV.int))) (x1 := some (.int (j : Int))) (x3 := some (.ref r)) (x5 := some (.int (0 + (i : Int)))) (x6 := y6) qq ok (by omega)
      exact ⟨.int (0 + (i : Int)), _, h', by rw [src_ints, if_pos hi], by rw [foB_nm]; exact e, some (.int (0 + (i : Int))), z6, rfl, q'⟩)
    (fun s' h' _ => by rw [src_intsL, src_ints, if_neg (by omega)])
  refine ⟨some (.ref h.length), some (.ref r), some t.cv, y5, y6, h6, ?_⟩
  have sm : small62 3 = true := by decide
  have c1 : cmpV .isnot (.bl true) (.bl true) h5 = some false := rfl
  unfold in274 at ef
  generalize t.cv = T at e4 e5 ef ⊢
  simp only [out274, run_eq, List.length_cons, List.length_nil, List.map_cons, List.map_nil, List.cons_append, List.nil_append, List.replicate, List.set_cons_zero, List.set_cons_succ, x_cons, x_nil, seqC_nx, seqC_rt, x_asg, asgK_nm, asgK_sub, retS_some, retH_some, sub1_eq, sub2_eq, x_expr, exK_eq, x_ret, retK_eq, x_retn, x_iff, iffK_t, iffK_f, x_fo, x_pas, x_par, runK_nx, runK_rt, bindE_some, bindL_some, bindO_some, bindI_some, bindB_some, liftB_some, retV_some, asB_bl, bin1_eq, e_bin, cmpK_eq, cmp1_eq, e_cmp, cmpR_t, cmpR_f, cmp2a_eq, e_cmp2, cmpR3_t, cmpR3_f, cmp3a_eq, e_cmp3, e_and, e_or, andK_t, andK_f, orK_t, orK_f, bOut_eq, notK_eq, e_not, negK_int, e_neg, iteK_t, iteK_f, e_ite, tupK2_eq, e_tup, lstK_eq, e_lst, e_dct0, ixK_eq, ix1_eq, e_ix, sl1_eq, sl2_eq, e_sl, e_rev, o_no, o_ex, oK_int, e_call, e_bi, e_me, s_nil, s_cons, consA_eq, consB_eq, e_lit, e_glob, e_var0, e_varS, e_comp, i_range1, i_range2, r2a_eq, i_val, vK_tup, vK_str, t_lit, t_cmp, t_cmp2, t_cmp3, t_call, t_bi, t_var, t_and, t_or, t_not, andT_t, andT_f, orT_t, orT_f, notT_eq, v_add, v_sub, c_lt, c_le, c_gt, c_ge, c_eqI, c_neI, c_eqS, c_neS, c_isN, c_isnotN, c_isB, c_isnotB, x_tup, x_lstV, sl_lstV, sl_tup, b_lenT, b_lenV, decide_true, decide_false, Bool.not_true, Bool.not_false, e1, e2, e3, e4, e5, c1, r1K_int sm, show (3 : Int).toNat = 3 from rfl, ef]
def odds274 (n : Nat) : List CV := [.non, .int 7, .str sRow, .tup [], .ref n, .ref (n + 1), .tup [.str sRow], .tup [.str sRow, .tup []], .tup [.str sThen, .tup []], .tup [.str sOr, .tup [.non]], .tup [.str sAgain, .tup [], .int 0, .int 1]]
theorem odds274_ok {F : Fns} (R : Rl26 F) {h : CH} {n : Nat} (g0 : h[n]? = some (.lst [])) (g1 : h[n + 1]? = some (.dct [])) {v : CV} (hv : v ∈ odds274 n) : Same2 F h v := by
  have u : Thg h 1 (.tup []) := thg_tup (by simp) (by simp)
  have r : ∀ m, Thg h m (.str sRow) := fun m => thg_str _ (by decide)
  have two : ∀ (k : List Nat) (x : CV), k.length ≤ 1000 → Thg h 3 x → Thg h 4 (.tup [.str k, x]) := fun k x hk hx => thg_tup (by simp) fun y hy => by
    simp only [List.mem_cons, List.not_mem_nil, or_false] at hy
    rcases hy with rfl | rfl
    · exact thg_str _ hk
    · exact hx
  simp only [odds274, List.mem_cons, List.not_mem_nil, or_false] at hv
  rcases hv with rfl | rfl | rfl | rfl | rfl | rfl | rfl | rfl | rfl | rfl | rfl
  · exact same2_thg R (thg_non 0) (by decide)
  · exact same2_thg R (thg_int 0 _) (by decide)
  · exact same2_thg R (r 0) (by decide)
  · exact same2_thg R u (by decide)
  · exact same2_nt R (.inl ⟨_, g0⟩) rfl
  · exact same2_nt R (.inr ⟨_, g1⟩) rfl
  · exact same2_thg R (n := 1) (thg_tup (by simp) fun y hy => by rw [List.mem_singleton.mp hy]; exact r 0) (by decide)
  · exact same2_thg R (two sRow _ (by decide) (u.le (by decide))) (by decide)
  · exact same2_thg R (two sThen _ (by decide) (u.le (by decide))) (by decide)
  · exact same2_thg R (two sOr _ (by decide) ((thg_tup (n := 0) (by simp) fun y hy => by rw [List.mem_singleton.mp hy]; exact thg_non 0).le (by decide))) (by decide)
  · exact same2_thg R (n := 2) (thg_tup (by simp) fun y hy => by
      simp only [List.mem_cons, List.not_mem_nil, or_false] at hy
      rcases hy with rfl | rfl | rfl | rfl
      · exact thg_str _ (by decide)
      · exact u
      · exact thg_int _ _
      · exact thg_int _ _) (by decide)
theorem Same2.off {F : Fns} {h h' : CH} {v : CV} (s : Same2 F h v) (o : Off [] h h') : Same2 F h' v := fun h1 o1 => by
  obtain ⟨b, h2, e, o2, k⟩ := s h1 (o.trans o1)
  exact ⟨b, h2, e, o2, fun h3 o3 => k h3 (o.trans o3)⟩
theorem law_k26 (F : Fns) (W : Nat) (R : Rl26 F) (ns : List Int) (hb : ∀ z ∈ ns, z.natAbs < 2 ^ 1048576) (h : CH) : ∃ h', runC F W n274.length b274 [.lst (ns.map CV.int)] h = some (.bl true, h') := by
  obtain ⟨n, hn, hn1⟩ : ∃ n : Nat, (if (if 12 < (ns.length : Int) then 12 else (ns.length : Int)) > 1 then (if 12 < (ns.length : Int) then 12 else (ns.length : Int)) else 1) = (n : Int) ∧ n ≤ 12 := by
    refine ⟨(if (if 12 < (ns.length : Int) then 12 else (ns.length : Int)) > 1 then (if 12 < (ns.length : Int) then 12 else (ns.length : Int)) else 1).toNat, ?_, ?_⟩ <;> split <;> split <;> omega
  have sm : small62 (n : Int) = true := by unfold small62; simp only [Bool.and_eq_true, decide_eq_true_eq]; omega
  obtain ⟨s', h', e, x1, x2, x3, x4, x5, x6, es⟩ := foK_inv (F := F) (W := W) (s := [some (.lst (ns.map CV.int)), none, none, none, none, none, none]) (h := h) (t := .nm 1) (b := out274) (src := .ints 0 n)
    (fun j s' h' => ∃ x1 x2 x3 x4 x5 x6, s' = [some (.lst (ns.map CV.int)), x1, x2, x3, x4, x5, x6])
    ⟨none, none, none, none, none, none, rfl⟩
    (fun j s' h' hj ⟨x1, x2, x3, x4, x5, x6, es⟩ => by
      subst es
      rw [src_intsL] at hj
      have hz : (0 : Int) + (j : Int) = (j : Int) := by omega
      obtain ⟨y2, y3, y4, y5, y6, h2, e2⟩ := out274_ev F W R ns hb (h := h') (j := j) (by omega) (x2 := x2) (x3 := x3) (x4 := x4) (x5 := x5) (x6 := x6)
      exact ⟨.int (0 + (j : Int)), _, h2, by rw [src_ints, if_pos hj], by rw [foB_nm, hz]; exact e2, some (.int (j : Int)), y2, y3, y4, y5, y6, rfl⟩)
    (fun s' h' _ => by rw [src_intsL, src_ints, if_neg (by omega)])
  subst es
  have gl : (h' ++ [CO.lst [], .dct [], .lst (odds274 h'.length)])[h'.length + 2]? = some (.lst (odds274 h'.length)) := by rw [get_at]; rfl
  have g0 : (h' ++ [CO.lst [], .dct [], .lst (odds274 h'.length)])[h'.length]? = some (.lst []) := by rw [get_at0]; rfl
  have g1 : (h' ++ [CO.lst [], .dct [], .lst (odds274 h'.length)])[h'.length + 1]? = some (.dct []) := by rw [get_at]; rfl
  obtain ⟨s2, h2, e2, y6, rfl, o2⟩ := foK_inv (F := F) (W := W) (s := [some (.lst (ns.map CV.int)), x1, x2, x3, x4, x5, x6]) (h := h' ++ [CO.lst [], .dct [], .lst (odds274 h'.length)]) (t := .nm 6) (b := ask274) (src := .cell (h'.length + 2))
    (fun j s hh => ∃ y6, s = [some (.lst (ns.map CV.int)), x1, x2, x3, x4, x5, y6] ∧ Off [] (h' ++ [CO.lst [], .dct [], .lst (odds274 h'.length)]) hh)
    ⟨x6, rfl, .refl _ _⟩
    (fun j s hh hj ⟨y6, es, o⟩ => by
      subst es
      rw [src_cellL gl] at hj
      have s2 := (odds274_ok R g0 g1 (List.getElem_mem hj)).off o
      obtain ⟨h3, e3, o3⟩ := ask274_ev F W R (x0 := some (.lst (ns.map CV.int))) (x1 := x1) (x2 := x2) (x3 := x3) (x4 := x4) (x5 := x5) s2
      refine ⟨(odds274 h'.length)[j], _, h3, by rw [src_cell (o.get gl (by simp)), List.getElem?_eq_getElem hj], by rw [foB_nm]; exact e3, _, rfl, o.trans o3⟩)
    (fun s' hh ⟨_, _, o⟩ => by rw [src_cellL gl, src_cell (o.get gl (by simp)), List.getElem?_eq_none (Nat.le_refl _)])
  refine ⟨h2, ?_⟩
  unfold out274 at e
  unfold ask274 odds274 sRow sThen sOr sAgain at e2
  simp only [b274, n274, run_eq, List.length_cons, List.length_nil, List.map_cons, List.map_nil, List.cons_append, List.nil_append, List.replicate, List.set_cons_zero, List.set_cons_succ, x_cons, x_nil, seqC_nx, seqC_rt, x_asg, asgK_nm, asgK_sub, retS_some, retH_some, sub1_eq, sub2_eq, x_expr, exK_eq, x_ret, retK_eq, x_retn, x_iff, iffK_t, iffK_f, x_fo, x_pas, x_par, runK_nx, runK_rt, bindE_some, bindL_some, bindO_some, bindI_some, bindB_some, liftB_some, retV_some, asB_bl, bin1_eq, e_bin, cmpK_eq, cmp1_eq, e_cmp, cmpR_t, cmpR_f, cmp2a_eq, e_cmp2, cmpR3_t, cmpR3_f, cmp3a_eq, e_cmp3, e_and, e_or, andK_t, andK_f, orK_t, orK_f, bOut_eq, notK_eq, e_not, negK_int, e_neg, iteK_t, iteK_f, e_ite, tupK2_eq, e_tup, lstK_eq, e_lst, e_dct0, ixK_eq, ix1_eq, e_ix, sl1_eq, sl2_eq, e_sl, e_rev, o_no, o_ex, oK_int, e_call, e_bi, e_me, s_nil, s_cons, consA_eq, consB_eq, e_lit, e_glob, e_var0, e_varS, e_comp, i_range1, i_range2, r2a_eq, i_val, vK_tup, vK_str, t_lit, t_cmp, t_cmp2, t_cmp3, t_call, t_bi, t_var, t_and, t_or, t_not, andT_t, andT_f, orT_t, orT_f, notT_eq, v_add, v_sub, c_lt, c_le, c_gt, c_ge, c_eqI, c_neI, c_eqS, c_neS, c_isN, c_isnotN, c_isB, c_isnotB, x_tup, x_lstV, sl_lstV, sl_tup, b_lenT, b_lenV, decide_true, decide_false, Bool.not_true, Bool.not_false, at0, at1, at2, at3, Nat.reduceAdd, Nat.reduceSub, Nat.reduceMul, Int.reduceAdd, Int.reduceSub, Int.reduceMul, Int.reduceNeg, Int.reduceLT, Int.reduceLE, Int.reduceToNat, Int.cast_ofNat_Int, get_at, get_at0, set_at, set_at0, v_addR, addO_ok, b_lenR, lenO_lst, x_ref, ixO_lst, sl_ref, slO_lst, set_ref, m_appR, appO_lst, b_allR, b_anyR, b_listT, vK_ref, vO_lst, me1_app, recO_lst, when_t, List.append_assoc, List.length_append, List.getElem?_cons_zero, List.getElem?_cons_succ, Nat.zero_add, lim_big, lim_lt, Nat.reduceLeDiff, Nat.reduceLT, asgK_tupS, foB_tupS, foB_nm, setN_nil, setN_cons, tupS_some, bindS_some, forL_nil, forL_cons, foK_tup, foK_str, r_part, r_split, r_join, List.length_map, b_min2, b_max2, hn, r1K_int sm, Int.toNat_natCast, e, e2]
end TH

set_option maxHeartbeats 8000000
namespace TH.K26
open PySem PySem.Spec PyProof.Rows L2
def topS (i : Nat) : Stmt := PySem.Challenge.pw_talehands_k26_what_is_a_plot.main.body.getD i (.Pass ⟨0, 0, 0, 0⟩)
def gv : List (String × CV) := [("SMALL", (.str [97, 98, 99, 100, 101, 102, 103, 104, 105, 106, 107, 108, 109, 110, 111, 112, 113, 114, 115, 116, 117, 118, 119, 120, 121, 122])), ("MOST_LETTERS", (.int 8)), ("MOST_AGAIN", (.int 4))]
abbrev s0 : Stmt := topS 3
theorem sc0 : FnScope n0 ["thing"] (defScope s0) := ⟨rfl, rfl, rfl, by decide +kernel, rfl, by decide +kernel, by decide +kernel⟩
theorem ck0 : chkSs ⟨n0, [], gv⟩ (defScope s0) b0 (defBody s0) = true := by decide +kernel
abbrev s1 : Stmt := topS 4
theorem sc1 : FnScope n1 ["thing"] (defScope s1) := ⟨rfl, rfl, rfl, by decide +kernel, rfl, by decide +kernel, by decide +kernel⟩
theorem ck1 : chkSs ⟨n1, [(0, "is_whole", 1)], gv⟩ (defScope s1) b1 (defBody s1) = true := by decide +kernel
abbrev s2 : Stmt := topS 6
theorem sc2 : FnScope n2 ["thing"] (defScope s2) := ⟨rfl, rfl, rfl, by decide +kernel, rfl, by decide +kernel, by decide +kernel⟩
theorem ck2 : chkSs ⟨n2, [(1, "is_name", 1), (0, "is_whole", 1)], gv⟩ (defScope s2) b2 (defBody s2) = true := by decide +kernel
abbrev s12 : Stmt := topS 7
theorem sc12 : FnScope n12 ["thing"] (defScope s12) := ⟨rfl, rfl, rfl, by decide +kernel, rfl, by decide +kernel, by decide +kernel⟩
theorem ck12 : chkSs ⟨n12, [(2, "is_deed", 1), (1, "is_name", 1), (0, "is_whole", 1)], gv⟩ (defScope s12) b12 (defBody s12) = true := by decide +kernel
abbrev s239 : Stmt := topS 10
theorem sc239 : FnScope n239 ["thing"] (defScope s239) := ⟨rfl, rfl, rfl, by decide +kernel, rfl, by decide +kernel, by decide +kernel⟩
theorem ck239 : chkSs ⟨n239, [(239, "are_plots", 1), (240, "is_plot", 1), (12, "is_row", 1), (2, "is_deed", 1), (1, "is_name", 1), (0, "is_whole", 1)], gv⟩ (defScope s239) b239 (defBody s239) = true := by decide +kernel
abbrev s240 : Stmt := topS 11
theorem sc240 : FnScope n240 ["thing"] (defScope s240) := ⟨rfl, rfl, rfl, by decide +kernel, rfl, by decide +kernel, by decide +kernel⟩
theorem ck240 : chkSs ⟨n240, [(239, "are_plots", 1), (240, "is_plot", 1), (12, "is_row", 1), (2, "is_deed", 1), (1, "is_name", 1), (0, "is_whole", 1)], gv⟩ (defScope s240) b240 (defBody s240) = true := by decide +kernel
abbrev s216 : Stmt := topS 13
theorem sc216 : FnScope n216 ["_law_cell"] (defScope s216) := ⟨rfl, rfl, rfl, by decide +kernel, rfl, by decide +kernel, by decide +kernel⟩
theorem ck216 : chkSs ⟨n216, [(239, "are_plots", 1), (240, "is_plot", 1), (12, "is_row", 1), (2, "is_deed", 1), (1, "is_name", 1), (0, "is_whole", 1)], gv⟩ (defScope s216) b216 (defBody s216) = true := by decide +kernel
abbrev s217 : Stmt := topS 14
theorem sc217 : FnScope n217 ["_law_script", "_law_k"] (defScope s217) := ⟨rfl, rfl, rfl, by decide +kernel, rfl, by decide +kernel, by decide +kernel⟩
theorem ck217 : chkSs ⟨n217, [(216, "_law_mixed", 1), (239, "are_plots", 1), (240, "is_plot", 1), (12, "is_row", 1), (2, "is_deed", 1), (1, "is_name", 1), (0, "is_whole", 1)], gv⟩ (defScope s217) b217 (defBody s217) = true := by decide +kernel
abbrev s93 : Stmt := topS 15
theorem sc93 : FnScope n93 ["_law_pack_here", "_law_size"] (defScope s93) := ⟨rfl, rfl, rfl, by decide +kernel, rfl, by decide +kernel, by decide +kernel⟩
theorem ck93 : chkSs ⟨n93, [(217, "_law_pack", 2), (216, "_law_mixed", 1), (239, "are_plots", 1), (240, "is_plot", 1), (12, "is_row", 1), (2, "is_deed", 1), (1, "is_name", 1), (0, "is_whole", 1)], gv⟩ (defScope s93) b93 (defBody s93) = true := by decide +kernel
abbrev s218 : Stmt := topS 16
theorem sc218 : FnScope n218 ["_law_pack_here"] (defScope s218) := ⟨rfl, rfl, rfl, by decide +kernel, rfl, by decide +kernel, by decide +kernel⟩
theorem ck218 : chkSs ⟨n218, [(93, "_law_take", 2), (217, "_law_pack", 2), (216, "_law_mixed", 1), (239, "are_plots", 1), (240, "is_plot", 1), (12, "is_row", 1), (2, "is_deed", 1), (1, "is_name", 1), (0, "is_whole", 1)], gv⟩ (defScope s218) b218 (defBody s218) = true := by decide +kernel
abbrev s265 : Stmt := topS 17
theorem sc265 : FnScope n265 ["_law_pack_here", "_law_names"] (defScope s265) := ⟨rfl, rfl, rfl, by decide +kernel, rfl, by decide +kernel, by decide +kernel⟩
theorem ck265 : chkSs ⟨n265, [(218, "_law_hands", 1), (93, "_law_take", 2), (217, "_law_pack", 2), (216, "_law_mixed", 1), (239, "are_plots", 1), (240, "is_plot", 1), (12, "is_row", 1), (2, "is_deed", 1), (1, "is_name", 1), (0, "is_whole", 1)], gv⟩ (defScope s265) b265 (defBody s265) = true := by decide +kernel
abbrev s266 : Stmt := topS 18
theorem sc266 : FnScope n266 ["_law_pack_here", "_law_names", "_law_most"] (defScope s266) := ⟨rfl, rfl, rfl, by decide +kernel, rfl, by decide +kernel, by decide +kernel⟩
theorem ck266 : chkSs ⟨n266, [(265, "_law_deed", 2), (218, "_law_hands", 1), (93, "_law_take", 2), (217, "_law_pack", 2), (216, "_law_mixed", 1), (239, "are_plots", 1), (240, "is_plot", 1), (12, "is_row", 1), (2, "is_deed", 1), (1, "is_name", 1), (0, "is_whole", 1)], gv⟩ (defScope s266) b266 (defBody s266) = true := by decide +kernel
abbrev s267 : Stmt := topS 19
theorem sc267 : FnScope n267 ["_law_pack_here", "_law_names", "_law_deep"] (defScope s267) := ⟨rfl, rfl, rfl, by decide +kernel, rfl, by decide +kernel, by decide +kernel⟩
theorem ck267 : chkSs ⟨n267, [(267, "_law_plot", 3), (266, "_law_row", 3), (265, "_law_deed", 2), (218, "_law_hands", 1), (93, "_law_take", 2), (217, "_law_pack", 2), (216, "_law_mixed", 1), (239, "are_plots", 1), (240, "is_plot", 1), (12, "is_row", 1), (2, "is_deed", 1), (1, "is_name", 1), (0, "is_whole", 1)], gv⟩ (defScope s267) b267 (defBody s267) = true := by decide +kernel
abbrev s268 : Stmt := topS 20
theorem sc268 : FnScope n268 ["_law_thing"] (defScope s268) := ⟨rfl, rfl, rfl, by decide +kernel, rfl, by decide +kernel, by decide +kernel⟩
theorem ck268 : chkSs ⟨n268, [(267, "_law_plot", 3), (266, "_law_row", 3), (265, "_law_deed", 2), (218, "_law_hands", 1), (93, "_law_take", 2), (217, "_law_pack", 2), (216, "_law_mixed", 1), (239, "are_plots", 1), (240, "is_plot", 1), (12, "is_row", 1), (2, "is_deed", 1), (1, "is_name", 1), (0, "is_whole", 1)], gv⟩ (defScope s268) b268 (defBody s268) = true := by decide +kernel
abbrev s269 : Stmt := topS 21
theorem sc269 : FnScope n269 ["_law_thing"] (defScope s269) := ⟨rfl, rfl, rfl, by decide +kernel, rfl, by decide +kernel, by decide +kernel⟩
theorem ck269 : chkSs ⟨n269, [(268, "_law_is_name", 1), (267, "_law_plot", 3), (266, "_law_row", 3), (265, "_law_deed", 2), (218, "_law_hands", 1), (93, "_law_take", 2), (217, "_law_pack", 2), (216, "_law_mixed", 1), (239, "are_plots", 1), (240, "is_plot", 1), (12, "is_row", 1), (2, "is_deed", 1), (1, "is_name", 1), (0, "is_whole", 1)], gv⟩ (defScope s269) b269 (defBody s269) = true := by decide +kernel
abbrev s270 : Stmt := topS 22
theorem sc270 : FnScope n270 ["_law_thing"] (defScope s270) := ⟨rfl, rfl, rfl, by decide +kernel, rfl, by decide +kernel, by decide +kernel⟩
theorem ck270 : chkSs ⟨n270, [(270, "_law_is_plot", 1), (269, "_law_is_deed", 1), (268, "_law_is_name", 1), (267, "_law_plot", 3), (266, "_law_row", 3), (265, "_law_deed", 2), (218, "_law_hands", 1), (93, "_law_take", 2), (217, "_law_pack", 2), (216, "_law_mixed", 1), (239, "are_plots", 1), (240, "is_plot", 1), (12, "is_row", 1), (2, "is_deed", 1), (1, "is_name", 1), (0, "is_whole", 1)], gv⟩ (defScope s270) b270 (defBody s270) = true := by decide +kernel
abbrev s271 : Stmt := topS 23
theorem sc271 : FnScope n271 ["_law_found", "_law_due"] (defScope s271) := ⟨rfl, rfl, rfl, by decide +kernel, rfl, by decide +kernel, by decide +kernel⟩
theorem ck271 : chkSs ⟨n271, [(270, "_law_is_plot", 1), (269, "_law_is_deed", 1), (268, "_law_is_name", 1), (267, "_law_plot", 3), (266, "_law_row", 3), (265, "_law_deed", 2), (218, "_law_hands", 1), (93, "_law_take", 2), (217, "_law_pack", 2), (216, "_law_mixed", 1), (239, "are_plots", 1), (240, "is_plot", 1), (12, "is_row", 1), (2, "is_deed", 1), (1, "is_name", 1), (0, "is_whole", 1)], gv⟩ (defScope s271) b271 (defBody s271) = true := by decide +kernel
abbrev s272 : Stmt := topS 24
theorem sc272 : FnScope n272 ["_law_pack_here", "_law_plot_here"] (defScope s272) := ⟨rfl, rfl, rfl, by decide +kernel, rfl, by decide +kernel, by decide +kernel⟩
theorem ck272 : chkSs ⟨n272, [(271, "_law_same", 2), (270, "_law_is_plot", 1), (269, "_law_is_deed", 1), (268, "_law_is_name", 1), (267, "_law_plot", 3), (266, "_law_row", 3), (265, "_law_deed", 2), (218, "_law_hands", 1), (93, "_law_take", 2), (217, "_law_pack", 2), (216, "_law_mixed", 1), (239, "are_plots", 1), (240, "is_plot", 1), (12, "is_row", 1), (2, "is_deed", 1), (1, "is_name", 1), (0, "is_whole", 1)], gv⟩ (defScope s272) b272 (defBody s272) = true := by decide +kernel
abbrev s273 : Stmt := topS 25
theorem sc273 : FnScope n273 ["_law_pack_here", "_law_plot_here"] (defScope s273) := ⟨rfl, rfl, rfl, by decide +kernel, rfl, by decide +kernel, by decide +kernel⟩
theorem ck273 : chkSs ⟨n273, [(273, "_law_spoilt", 2), (272, "_law_spoilt_here", 2), (271, "_law_same", 2), (270, "_law_is_plot", 1), (269, "_law_is_deed", 1), (268, "_law_is_name", 1), (267, "_law_plot", 3), (266, "_law_row", 3), (265, "_law_deed", 2), (218, "_law_hands", 1), (93, "_law_take", 2), (217, "_law_pack", 2), (216, "_law_mixed", 1), (239, "are_plots", 1), (240, "is_plot", 1), (12, "is_row", 1), (2, "is_deed", 1), (1, "is_name", 1), (0, "is_whole", 1)], gv⟩ (defScope s273) b273 (defBody s273) = true := by decide +kernel
abbrev s274 : Stmt := topS 26
theorem sc274 : FnScope n274 ["_law_script"] (defScope s274) := ⟨rfl, rfl, rfl, by decide +kernel, rfl, by decide +kernel, by decide +kernel⟩
theorem ck274 : chkSs ⟨n274, [(273, "_law_spoilt", 2), (272, "_law_spoilt_here", 2), (271, "_law_same", 2), (270, "_law_is_plot", 1), (269, "_law_is_deed", 1), (268, "_law_is_name", 1), (267, "_law_plot", 3), (266, "_law_row", 3), (265, "_law_deed", 2), (218, "_law_hands", 1), (93, "_law_take", 2), (217, "_law_pack", 2), (216, "_law_mixed", 1), (239, "are_plots", 1), (240, "is_plot", 1), (12, "is_row", 1), (2, "is_deed", 1), (1, "is_name", 1), (0, "is_whole", 1)], gv⟩ (defScope s274) b274 (defBody s274) = true := by decide +kernel
def F1 : Fns := fup F0 0 (runC F0 1000000 n0.length b0)
def F2 : Fns := fup F1 1 (runC F1 1000000 n1.length b1)
def F3 : Fns := fup F2 2 (runC F2 1000000 n2.length b2)
def F13 : Fns := fup F3 12 (runC F3 1000000 n12.length b12)
def F241 : Fns := recF F13 1000000 [(239, n239.length, b239), (240, n240.length, b240)] 30
def F217 : Fns := fup F241 216 (runC F241 1000000 n216.length b216)
def F218 : Fns := fup F217 217 (runC F217 1000000 n217.length b217)
def F94 : Fns := fup F218 93 (runC F218 1000000 n93.length b93)
def F219 : Fns := fup F94 218 (runC F94 1000000 n218.length b218)
def F266 : Fns := fup F219 265 (runC F219 1000000 n265.length b265)
def F267 : Fns := fup F266 266 (runC F266 1000000 n266.length b266)
def F268 : Fns := recF F267 1000000 [(267, n267.length, b267)] 30
def F269 : Fns := fup F268 268 (runC F268 1000000 n268.length b268)
def F270 : Fns := fup F269 269 (runC F269 1000000 n269.length b269)
def F271 : Fns := recF F270 1000000 [(270, n270.length, b270)] 30
def F272 : Fns := fup F271 271 (runC F271 1000000 n271.length b271)
def F273 : Fns := fup F272 272 (runC F272 1000000 n272.length b272)
def F274 : Fns := recF F273 1000000 [(273, n273.length, b273)] 30

theorem recF_ne {F : Fns} {W : Nat} {bs : List (Nat × Nat × CSs)} {d j : Nat} (h : (bs.lookup j).isNone = true) : recF F W bs d j = F j := by cases d <;> (unfold recF; cases e : bs.lookup j with | none => rfl | some p => rw [e] at h; cases h)
theorem fup_eq {F : Fns} {i : Nat} {m : List CV → CH → Out} : fup F i m i = m := by unfold fup; rw [if_pos rfl]
theorem fup_ne {F : Fns} {i j : Nat} {m : List CV → CH → Out} (h : j ≠ i) : fup F i m j = F j := by unfold fup; rw [if_neg h]
theorem g2_1 : F2 1 = runC F1 1000000 n1.length b1 := fup_eq
theorem g12_2 : F3 2 = runC F2 1000000 n2.length b2 := fup_eq
theorem g240_0 : F13 0 = runC F0 1000000 n0.length b0 := (fup_ne (by decide)).trans ((fup_ne (by decide)).trans ((fup_ne (by decide)).trans (fup_eq)))
theorem g240_12 : F13 12 = runC F3 1000000 n12.length b12 := fup_eq
theorem g217_216 : F217 216 = runC F241 1000000 n216.length b216 := fup_eq
theorem g218_93 : F94 93 = runC F218 1000000 n93.length b93 := fup_eq
theorem g265_93 : F219 93 = runC F218 1000000 n93.length b93 := (fup_ne (by decide)).trans (fup_eq)
theorem g266_93 : F266 93 = runC F218 1000000 n93.length b93 := (fup_ne (by decide)).trans ((fup_ne (by decide)).trans (fup_eq))
theorem g266_265 : F266 265 = runC F219 1000000 n265.length b265 := fup_eq
theorem g267_93 : F267 93 = runC F218 1000000 n93.length b93 := (fup_ne (by decide)).trans ((fup_ne (by decide)).trans ((fup_ne (by decide)).trans (fup_eq)))
theorem g267_266 : F267 266 = runC F266 1000000 n266.length b266 := fup_eq
theorem g269_268 : F269 268 = runC F268 1000000 n268.length b268 := fup_eq
theorem g270_269 : F270 269 = runC F269 1000000 n269.length b269 := fup_eq
theorem g272_93 : F272 93 = runC F218 1000000 n93.length b93 := (fup_ne (by decide)).trans ((recF_ne (by decide)).trans ((fup_ne (by decide)).trans ((fup_ne (by decide)).trans ((recF_ne (by decide)).trans ((fup_ne (by decide)).trans ((fup_ne (by decide)).trans ((fup_ne (by decide)).trans (fup_eq))))))))
theorem g273_93 : F273 93 = runC F218 1000000 n93.length b93 := (fup_ne (by decide)).trans ((fup_ne (by decide)).trans ((recF_ne (by decide)).trans ((fup_ne (by decide)).trans ((fup_ne (by decide)).trans ((recF_ne (by decide)).trans ((fup_ne (by decide)).trans ((fup_ne (by decide)).trans ((fup_ne (by decide)).trans (fup_eq)))))))))
theorem g273_272 : F273 272 = runC F272 1000000 n272.length b272 := fup_eq
theorem g274_93 : F274 93 = runC F218 1000000 n93.length b93 := (recF_ne (by decide)).trans ((fup_ne (by decide)).trans ((fup_ne (by decide)).trans ((recF_ne (by decide)).trans ((fup_ne (by decide)).trans ((fup_ne (by decide)).trans ((recF_ne (by decide)).trans ((fup_ne (by decide)).trans ((fup_ne (by decide)).trans ((fup_ne (by decide)).trans (fup_eq))))))))))
theorem g274_217 : F274 217 = runC F217 1000000 n217.length b217 := (recF_ne (by decide)).trans ((fup_ne (by decide)).trans ((fup_ne (by decide)).trans ((recF_ne (by decide)).trans ((fup_ne (by decide)).trans ((fup_ne (by decide)).trans ((recF_ne (by decide)).trans ((fup_ne (by decide)).trans ((fup_ne (by decide)).trans ((fup_ne (by decide)).trans ((fup_ne (by decide)).trans (fup_eq)))))))))))
theorem g274_218 : F274 218 = runC F94 1000000 n218.length b218 := (recF_ne (by decide)).trans ((fup_ne (by decide)).trans ((fup_ne (by decide)).trans ((recF_ne (by decide)).trans ((fup_ne (by decide)).trans ((fup_ne (by decide)).trans ((recF_ne (by decide)).trans ((fup_ne (by decide)).trans ((fup_ne (by decide)).trans (fup_eq)))))))))
theorem g274_240 : F274 240 = F241 240 := (recF_ne (by decide)).trans ((fup_ne (by decide)).trans ((fup_ne (by decide)).trans ((recF_ne (by decide)).trans ((fup_ne (by decide)).trans ((fup_ne (by decide)).trans ((recF_ne (by decide)).trans ((fup_ne (by decide)).trans ((fup_ne (by decide)).trans ((fup_ne (by decide)).trans ((fup_ne (by decide)).trans ((fup_ne (by decide)).trans ((fup_ne (by decide)).trans (rfl)))))))))))))
theorem g274_267 : F274 267 = F268 267 := (recF_ne (by decide)).trans ((fup_ne (by decide)).trans ((fup_ne (by decide)).trans ((recF_ne (by decide)).trans ((fup_ne (by decide)).trans ((fup_ne (by decide)).trans (rfl))))))
theorem g274_270 : F274 270 = F271 270 := (recF_ne (by decide)).trans ((fup_ne (by decide)).trans ((fup_ne (by decide)).trans (rfl)))
theorem g274_271 : F274 271 = runC F271 1000000 n271.length b271 := (recF_ne (by decide)).trans ((fup_ne (by decide)).trans (fup_eq))
theorem g274_273 : F274 273 = F274 273 := rfl

theorem q1 (h : CH) (v : CV) (t : Part h v) : ∃ h', runC F1 1000000 n1.length b1 [v] h = some (.bl (nmV v), h') ∧ Off [] h h' := run_isname F1 1000000 t.1 t.2
theorem q2 (h : CH) (v : CV) (t : TD h v) : ∃ h', runC F2 1000000 n2.length b2 [v] h = some (.bl (deedV v), h') ∧ Off [] h h' := run_isdeed F2 1000000 (fun h v t => by rw [g2_1]; exact q1 h v t) t.1.1 t.2
theorem q12 (h : CH) (v : CV) (t : Typ h v) (hp : ∀ xs, v = .tup xs → xs.length ≤ 1000 ∧ ∀ x ∈ xs, TD h x) : ∃ h', runC F3 1000000 n12.length b12 [v] h = some (.bl (rowV v), h') ∧ Off [] h h' := run_isrow F3 1000000 (fun h v t => by rw [g12_2]; exact q2 h v t) t hp
theorem pl13 : Pl F13 where
  whole := fun h v t => by rw [g240_0]; exact run_whole F0 1000000 t
  row := fun h v t hp => by rw [g240_12]; exact q12 h v t hp
theorem q93 (h : CH) (p : Nat) (t : Int) (q : Pk h p) (a : 0 < t) (b : t < 1073741824) : ∃ d h', runC F218 1000000 n93.length b93 [.ref p, .int t] h = some (.int d, h') ∧ 0 ≤ d ∧ d < t ∧ Off [p] h h' ∧ Pk h' p := run_take F218 1000000 q a b
theorem q265 : D265 F266 := fun h p r ks a b c d e f g => by rw [g266_265]; exact run_ldeed265 F219 1000000 (fun h p t q a b => by rw [g265_93]; exact q93 h p t q a b) a b c d e f g
theorem dr267 : Dr F267 where
  take := fun h p t q a b => by rw [g267_93]; exact q93 h p t q a b
  row := fun h p r m ks a b c d e f g i => by rw [g267_266]; exact run_lrow266 F266 1000000 (fun h p t q a b => by rw [g266_93]; exact q93 h p t q a b) q265 a b c d e f g i
theorem q268 (h : CH) (v : CV) (t : Part h v) : ∃ h', runC F268 1000000 n268.length b268 [v] h = some (.bl (nmV v), h') ∧ Off [] h h' := run_lname268 F268 1000000 t.1 t.2
theorem q269 (h : CH) (v : CV) (t : TD h v) : ∃ h', F270 269 [v] h = some (.bl (deedV v), h') ∧ Off [] h h' := by rw [g270_269]; exact run_ldeed269 F269 1000000 (fun h v t => by rw [g269_268]; exact q268 h v t) t
theorem sp3 : Sp3 F273 where
  take := fun h p t q a b => by rw [g273_93]; exact q93 h p t q a b
  here := fun h p n A ys rest a b c d e f => by rw [g273_272]; exact run_here272 F272 1000000 (fun h p t q a b => by rw [g272_93]; exact q93 h p t q a b) a b c d e f
theorem r26 : Rl26 F274 where
  pack := fun h ns k a b => by rw [g274_217]; exact run_pack F217 1000000 (fun h c B x y => by rw [g217_216]; exact run_mixed F241 1000000 x y) (B := 1048576) a b (by decide)
  hands := fun h p q => by rw [g274_218]; exact run_hands218 F94 1000000 (fun h p t q a b => by rw [g218_93]; exact q93 h p t q a b) q
  take := fun h p t q a b => by rw [g274_93]; exact q93 h p t q a b
  plot := fun h p r n ks a b c d e f g i => by rw [g274_267]; exact run_lplot267 F267 1000000 dr267 a b c d e n 30 h (by omega) g i
  isp := fun h n v a b => by rw [g274_240]; exact run_plot240 F13 1000000 pl13 n 30 h v a (by omega)
  lisp := fun h n v a b => by rw [g274_270]; exact run_lplot270 F270 1000000 q269 n 30 h v a (by omega) (by omega)
  isp0 := fun h v a b => by rw [g274_240]; exact nt240 F13 1000000 29 a b
  lisp0 := fun h v a b => by rw [g274_270]; exact nt270 F270 1000000 29 a b
  same := fun h a b => by rw [g274_271]; exact run_lsame271 F271 1000000 a b h
  spoil := fun h p n t a b c => by rw [g274_273]; exact run_spoilt273 F273 1000000 sp3 n 30 h t a (by omega) c
theorem law_here (ns : List Int) (hb : ∀ z ∈ ns, z.natAbs < 2 ^ 1048576) : ∃ h', runC F274 1000000 n274.length b274 [.lst (ns.map CV.int)] [] = some (.bl true, h') := law_k26 F274 1000000 r26 ns hb []

theorem law_true (ns : List Int) (h : ns.length ≤ 63) (hb : ∀ z ∈ ns, z.natAbs < 2 ^ 1048576) : ∃ h', runC F274 1000000 n274.length b274 [.lst (ns.map CV.int)] [] = some (.bl true, h') := law_here ns hb
section
variable {w : World} {K : PySem.W.Frag} {h : Heap} {mg : Str → Option Value} {fa : Addr}
/-- what the top has written -/
theorem all_mk {f0 f1 f2 f12 f239 f240 f216 f217 f93 f218 f265 f266 f267 f268 f269 f270 f271 f272 f273 f274 : Addr} (X : K.In h) (G : h.Ns mainGlobals mg) (hfa : mg "law" = some (.ref fa))
    {od0 an0 od1 an1 od2 an2 od12 an12 od239 an239 od240 an240 od216 an216 od217 an217 od93 an93 od218 an218 od265 an265 od266 an266 od267 an267 od268 an268 od269 an269 od270 an270 od271 an271 od272 an272 od273 an273 od274 an274 : Option Addr} {sl0 sl1 sl2 sl12 sl239 sl240 sl216 sl217 sl93 sl218 sl265 sl266 sl267 sl268 sl269 sl270 sl271 sl272 sl273 sl274 : Array (Option Value)} {oc0 kV0 dc0 pm0 cd0 ct0 oc1 kV1 dc1 pm1 cd1 ct1 oc2 kV2 dc2 pm2 cd2 ct2 oc12 kV12 dc12 pm12 cd12 ct12 oc239 kV239 dc239 pm239 cd239 ct239 oc240 kV240 dc240 pm240 cd240 ct240 oc216 kV216 dc216 pm216 cd216 ct216 oc217 kV217 dc217 pm217 cd217 ct217 oc93 kV93 dc93 pm93 cd93 ct93 oc218 kV218 dc218 pm218 cd218 ct218 oc265 kV265 dc265 pm265 cd265 ct265 oc266 kV266 dc266 pm266 cd266 ct266 oc267 kV267 dc267 pm267 cd267 ct267 oc268 kV268 dc268 pm268 cd268 ct268 oc269 kV269 dc269 pm269 cd269 ct269 oc270 kV270 dc270 pm270 cd270 ct270 oc271 kV271 dc271 pm271 cd271 ct271 oc272 kV272 dc272 pm272 cd272 ct272 oc273 kV273 dc273 pm273 cd273 ct273 oc274 kV274 dc274 pm274 cd274 ct274 : Value} {t_SMALL t_MOST_LETTERS t_MOST_AGAIN : Tok}
    (a0 : PySem.W.nsIn K mainGlobals "is_whole" = some (some (.ref f0))) (l0 : K.lookup f0 = some ⟨oc0, od0, .func (PySem.W.fnOf "is_whole" "is_whole" (defArgs s0) (defBody s0) (defScope s0) .none kV0 dc0 pm0 an0 cd0 ct0), sl0⟩) (c0 : PySem.W.codeIn K cd0 "is_whole" = true) (k0 : PySem.W.keepIn K (.ref f0) = true)
    (a1 : PySem.W.nsIn K mainGlobals "is_name" = some (some (.ref f1))) (l1 : K.lookup f1 = some ⟨oc1, od1, .func (PySem.W.fnOf "is_name" "is_name" (defArgs s1) (defBody s1) (defScope s1) .none kV1 dc1 pm1 an1 cd1 ct1), sl1⟩) (c1 : PySem.W.codeIn K cd1 "is_name" = true) (k1 : PySem.W.keepIn K (.ref f1) = true)
    (a2 : PySem.W.nsIn K mainGlobals "is_deed" = some (some (.ref f2))) (l2 : K.lookup f2 = some ⟨oc2, od2, .func (PySem.W.fnOf "is_deed" "is_deed" (defArgs s2) (defBody s2) (defScope s2) .none kV2 dc2 pm2 an2 cd2 ct2), sl2⟩) (c2 : PySem.W.codeIn K cd2 "is_deed" = true) (k2 : PySem.W.keepIn K (.ref f2) = true)
    (a12 : PySem.W.nsIn K mainGlobals "is_row" = some (some (.ref f12))) (l12 : K.lookup f12 = some ⟨oc12, od12, .func (PySem.W.fnOf "is_row" "is_row" (defArgs s12) (defBody s12) (defScope s12) .none kV12 dc12 pm12 an12 cd12 ct12), sl12⟩) (c12 : PySem.W.codeIn K cd12 "is_row" = true) (k12 : PySem.W.keepIn K (.ref f12) = true)
    (a239 : PySem.W.nsIn K mainGlobals "are_plots" = some (some (.ref f239))) (l239 : K.lookup f239 = some ⟨oc239, od239, .func (PySem.W.fnOf "are_plots" "are_plots" (defArgs s239) (defBody s239) (defScope s239) .none kV239 dc239 pm239 an239 cd239 ct239), sl239⟩) (c239 : PySem.W.codeIn K cd239 "are_plots" = true) (k239 : PySem.W.keepIn K (.ref f239) = true)
    (a240 : PySem.W.nsIn K mainGlobals "is_plot" = some (some (.ref f240))) (l240 : K.lookup f240 = some ⟨oc240, od240, .func (PySem.W.fnOf "is_plot" "is_plot" (defArgs s240) (defBody s240) (defScope s240) .none kV240 dc240 pm240 an240 cd240 ct240), sl240⟩) (c240 : PySem.W.codeIn K cd240 "is_plot" = true) (k240 : PySem.W.keepIn K (.ref f240) = true)
    (a216 : PySem.W.nsIn K mainGlobals "_law_mixed" = some (some (.ref f216))) (l216 : K.lookup f216 = some ⟨oc216, od216, .func (PySem.W.fnOf "_law_mixed" "_law_mixed" (defArgs s216) (defBody s216) (defScope s216) .none kV216 dc216 pm216 an216 cd216 ct216), sl216⟩) (c216 : PySem.W.codeIn K cd216 "_law_mixed" = true) (k216 : PySem.W.keepIn K (.ref f216) = true)
    (a217 : PySem.W.nsIn K mainGlobals "_law_pack" = some (some (.ref f217))) (l217 : K.lookup f217 = some ⟨oc217, od217, .func (PySem.W.fnOf "_law_pack" "_law_pack" (defArgs s217) (defBody s217) (defScope s217) .none kV217 dc217 pm217 an217 cd217 ct217), sl217⟩) (c217 : PySem.W.codeIn K cd217 "_law_pack" = true) (k217 : PySem.W.keepIn K (.ref f217) = true)
    (a93 : PySem.W.nsIn K mainGlobals "_law_take" = some (some (.ref f93))) (l93 : K.lookup f93 = some ⟨oc93, od93, .func (PySem.W.fnOf "_law_take" "_law_take" (defArgs s93) (defBody s93) (defScope s93) .none kV93 dc93 pm93 an93 cd93 ct93), sl93⟩) (c93 : PySem.W.codeIn K cd93 "_law_take" = true) (k93 : PySem.W.keepIn K (.ref f93) = true)
    (a218 : PySem.W.nsIn K mainGlobals "_law_hands" = some (some (.ref f218))) (l218 : K.lookup f218 = some ⟨oc218, od218, .func (PySem.W.fnOf "_law_hands" "_law_hands" (defArgs s218) (defBody s218) (defScope s218) .none kV218 dc218 pm218 an218 cd218 ct218), sl218⟩) (c218 : PySem.W.codeIn K cd218 "_law_hands" = true) (k218 : PySem.W.keepIn K (.ref f218) = true)
    (a265 : PySem.W.nsIn K mainGlobals "_law_deed" = some (some (.ref f265))) (l265 : K.lookup f265 = some ⟨oc265, od265, .func (PySem.W.fnOf "_law_deed" "_law_deed" (defArgs s265) (defBody s265) (defScope s265) .none kV265 dc265 pm265 an265 cd265 ct265), sl265⟩) (c265 : PySem.W.codeIn K cd265 "_law_deed" = true) (k265 : PySem.W.keepIn K (.ref f265) = true)
    (a266 : PySem.W.nsIn K mainGlobals "_law_row" = some (some (.ref f266))) (l266 : K.lookup f266 = some ⟨oc266, od266, .func (PySem.W.fnOf "_law_row" "_law_row" (defArgs s266) (defBody s266) (defScope s266) .none kV266 dc266 pm266 an266 cd266 ct266), sl266⟩) (c266 : PySem.W.codeIn K cd266 "_law_row" = true) (k266 : PySem.W.keepIn K (.ref f266) = true)
    (a267 : PySem.W.nsIn K mainGlobals "_law_plot" = some (some (.ref f267))) (l267 : K.lookup f267 = some ⟨oc267, od267, .func (PySem.W.fnOf "_law_plot" "_law_plot" (defArgs s267) (defBody s267) (defScope s267) .none kV267 dc267 pm267 an267 cd267 ct267), sl267⟩) (c267 : PySem.W.codeIn K cd267 "_law_plot" = true) (k267 : PySem.W.keepIn K (.ref f267) = true)
    (a268 : PySem.W.nsIn K mainGlobals "_law_is_name" = some (some (.ref f268))) (l268 : K.lookup f268 = some ⟨oc268, od268, .func (PySem.W.fnOf "_law_is_name" "_law_is_name" (defArgs s268) (defBody s268) (defScope s268) .none kV268 dc268 pm268 an268 cd268 ct268), sl268⟩) (c268 : PySem.W.codeIn K cd268 "_law_is_name" = true) (k268 : PySem.W.keepIn K (.ref f268) = true)
    (a269 : PySem.W.nsIn K mainGlobals "_law_is_deed" = some (some (.ref f269))) (l269 : K.lookup f269 = some ⟨oc269, od269, .func (PySem.W.fnOf "_law_is_deed" "_law_is_deed" (defArgs s269) (defBody s269) (defScope s269) .none kV269 dc269 pm269 an269 cd269 ct269), sl269⟩) (c269 : PySem.W.codeIn K cd269 "_law_is_deed" = true) (k269 : PySem.W.keepIn K (.ref f269) = true)
    (a270 : PySem.W.nsIn K mainGlobals "_law_is_plot" = some (some (.ref f270))) (l270 : K.lookup f270 = some ⟨oc270, od270, .func (PySem.W.fnOf "_law_is_plot" "_law_is_plot" (defArgs s270) (defBody s270) (defScope s270) .none kV270 dc270 pm270 an270 cd270 ct270), sl270⟩) (c270 : PySem.W.codeIn K cd270 "_law_is_plot" = true) (k270 : PySem.W.keepIn K (.ref f270) = true)
    (a271 : PySem.W.nsIn K mainGlobals "_law_same" = some (some (.ref f271))) (l271 : K.lookup f271 = some ⟨oc271, od271, .func (PySem.W.fnOf "_law_same" "_law_same" (defArgs s271) (defBody s271) (defScope s271) .none kV271 dc271 pm271 an271 cd271 ct271), sl271⟩) (c271 : PySem.W.codeIn K cd271 "_law_same" = true) (k271 : PySem.W.keepIn K (.ref f271) = true)
    (a272 : PySem.W.nsIn K mainGlobals "_law_spoilt_here" = some (some (.ref f272))) (l272 : K.lookup f272 = some ⟨oc272, od272, .func (PySem.W.fnOf "_law_spoilt_here" "_law_spoilt_here" (defArgs s272) (defBody s272) (defScope s272) .none kV272 dc272 pm272 an272 cd272 ct272), sl272⟩) (c272 : PySem.W.codeIn K cd272 "_law_spoilt_here" = true) (k272 : PySem.W.keepIn K (.ref f272) = true)
    (a273 : PySem.W.nsIn K mainGlobals "_law_spoilt" = some (some (.ref f273))) (l273 : K.lookup f273 = some ⟨oc273, od273, .func (PySem.W.fnOf "_law_spoilt" "_law_spoilt" (defArgs s273) (defBody s273) (defScope s273) .none kV273 dc273 pm273 an273 cd273 ct273), sl273⟩) (c273 : PySem.W.codeIn K cd273 "_law_spoilt" = true) (k273 : PySem.W.keepIn K (.ref f273) = true)
    (a274 : PySem.W.nsIn K mainGlobals "law" = some (some (.ref f274))) (l274 : K.lookup f274 = some ⟨oc274, od274, .func (PySem.W.fnOf "law" "law" (defArgs s274) (defBody s274) (defScope s274) .none kV274 dc274 pm274 an274 cd274 ct274), sl274⟩) (c274 : PySem.W.codeIn K cd274 "law" = true) (k274 : PySem.W.keepIn K (.ref f274) = true)
    (g_SMALL : PySem.W.nsIn K mainGlobals "SMALL" = some (some (.str (toS [97, 98, 99, 100, 101, 102, 103, 104, 105, 106, 107, 108, 109, 110, 111, 112, 113, 114, 115, 116, 117, 118, 119, 120, 121, 122]) t_SMALL)))
    (g_MOST_LETTERS : PySem.W.nsIn K mainGlobals "MOST_LETTERS" = some (some (.int 8 t_MOST_LETTERS)))
    (g_MOST_AGAIN : PySem.W.nsIn K mainGlobals "MOST_AGAIN" = some (some (.int 4 t_MOST_AGAIN)))
    (z_len : PySem.W.nsIn K mainGlobals "len" = some none)
    (z_all : PySem.W.nsIn K mainGlobals "all" = some none)
    (z_any : PySem.W.nsIn K mainGlobals "any" = some none)
    (z_tuple : PySem.W.nsIn K mainGlobals "tuple" = some none)
    (z_list : PySem.W.nsIn K mainGlobals "list" = some none)
    (z_set : PySem.W.nsIn K mainGlobals "set" = some none)
    (z_sorted : PySem.W.nsIn K mainGlobals "sorted" = some none)
    (z_int : PySem.W.nsIn K mainGlobals "int" = some none)
    (z_abs : PySem.W.nsIn K mainGlobals "abs" = some none)
    (z_divmod : PySem.W.nsIn K mainGlobals "divmod" = some none)
    (z_min : PySem.W.nsIn K mainGlobals "min" = some none)
    (z_max : PySem.W.nsIn K mainGlobals "max" = some none)
    (z_sum : PySem.W.nsIn K mainGlobals "sum" = some none)
    (z_isinstance : PySem.W.nsIn K mainGlobals "isinstance" = some none)
    (z_dict : PySem.W.nsIn K mainGlobals "dict" = some none)
    (z_str : PySem.W.nsIn K mainGlobals "str" = some none)
    (z_bool : PySem.W.nsIn K mainGlobals "bool" = some none)
    (z_range : PySem.W.nsIn K mainGlobals "range" = some none)
    (lt : ∀ ns : List Int, ns.length ≤ 63 → (∀ z ∈ ns, z.natAbs < 2 ^ 1048576) → ∃ h', runC F274 1000000 n274.length b274 [.lst (ns.map CV.int)] [] = some (.bl true, h')) :
    ∃ fd : FuncData, (∀ (s : Shared) (v : Value), BindsTo s fd ⟨[v], []⟩ [("_law_script", v)]) ∧ ∀ base : Heap, K.In base → base.Ns mainGlobals mg → FnOk PySem.Challenge.pw_talehands_k26_what_is_a_plot w K mg base CX0 139 fa fd ["_law_script"] (spLawB 63 K) := by
  have e := hfa.symm.trans (PySem.W.mg_of X G a274)
  cases e
  have H0 := fun_mk (st := s0) l0 c0 k0
  have H1 := fun_mk (st := s1) l1 c1 k1
  have H2 := fun_mk (st := s2) l2 c2 k2
  have H12 := fun_mk (st := s12) l12 c12 k12
  have H239 := fun_mk (st := s239) l239 c239 k239
  have H240 := fun_mk (st := s240) l240 c240 k240
  have H216 := fun_mk (st := s216) l216 c216 k216
  have H217 := fun_mk (st := s217) l217 c217 k217
  have H93 := fun_mk (st := s93) l93 c93 k93
  have H218 := fun_mk (st := s218) l218 c218 k218
  have H265 := fun_mk (st := s265) l265 c265 k265
  have H266 := fun_mk (st := s266) l266 c266 k266
  have H267 := fun_mk (st := s267) l267 c267 k267
  have H268 := fun_mk (st := s268) l268 c268 k268
  have H269 := fun_mk (st := s269) l269 c269 k269
  have H270 := fun_mk (st := s270) l270 c270 k270
  have H271 := fun_mk (st := s271) l271 c271 k271
  have H272 := fun_mk (st := s272) l272 c272 k272
  have H273 := fun_mk (st := s273) l273 c273 k273
  have H274 := fun_mk (st := s274) l274 c274 k274
  have B0 := H0.binds (ps := ["thing"]) fun _ _ _ _ _ _ us hl => match us, hl with | [_], _ => rfl
  have B1 := H1.binds (ps := ["thing"]) fun _ _ _ _ _ _ us hl => match us, hl with | [_], _ => rfl
  have B2 := H2.binds (ps := ["thing"]) fun _ _ _ _ _ _ us hl => match us, hl with | [_], _ => rfl
  have B12 := H12.binds (ps := ["thing"]) fun _ _ _ _ _ _ us hl => match us, hl with | [_], _ => rfl
  have B239 := H239.binds (ps := ["thing"]) fun _ _ _ _ _ _ us hl => match us, hl with | [_], _ => rfl
  have B240 := H240.binds (ps := ["thing"]) fun _ _ _ _ _ _ us hl => match us, hl with | [_], _ => rfl
  have B216 := H216.binds (ps := ["_law_cell"]) fun _ _ _ _ _ _ us hl => match us, hl with | [_], _ => rfl
  have B217 := H217.binds (ps := ["_law_script", "_law_k"]) fun _ _ _ _ _ _ us hl => match us, hl with | [_, _], _ => rfl
  have B93 := H93.binds (ps := ["_law_pack_here", "_law_size"]) fun _ _ _ _ _ _ us hl => match us, hl with | [_, _], _ => rfl
  have B218 := H218.binds (ps := ["_law_pack_here"]) fun _ _ _ _ _ _ us hl => match us, hl with | [_], _ => rfl
  have B265 := H265.binds (ps := ["_law_pack_here", "_law_names"]) fun _ _ _ _ _ _ us hl => match us, hl with | [_, _], _ => rfl
  have B266 := H266.binds (ps := ["_law_pack_here", "_law_names", "_law_most"]) fun _ _ _ _ _ _ us hl => match us, hl with | [_, _, _], _ => rfl
  have B267 := H267.binds (ps := ["_law_pack_here", "_law_names", "_law_deep"]) fun _ _ _ _ _ _ us hl => match us, hl with | [_, _, _], _ => rfl
  have B268 := H268.binds (ps := ["_law_thing"]) fun _ _ _ _ _ _ us hl => match us, hl with | [_], _ => rfl
  have B269 := H269.binds (ps := ["_law_thing"]) fun _ _ _ _ _ _ us hl => match us, hl with | [_], _ => rfl
  have B270 := H270.binds (ps := ["_law_thing"]) fun _ _ _ _ _ _ us hl => match us, hl with | [_], _ => rfl
  have B271 := H271.binds (ps := ["_law_found", "_law_due"]) fun _ _ _ _ _ _ us hl => match us, hl with | [_, _], _ => rfl
  have B272 := H272.binds (ps := ["_law_pack_here", "_law_plot_here"]) fun _ _ _ _ _ _ us hl => match us, hl with | [_, _], _ => rfl
  have B273 := H273.binds (ps := ["_law_pack_here", "_law_plot_here"]) fun _ _ _ _ _ _ us hl => match us, hl with | [_, _], _ => rfl
  refine ⟨PySem.W.fnOf "law" "law" (defArgs s274) (defBody s274) (defScope s274) .none kV274 dc274 pm274 an274 cd274 ct274, fun s v => .of_eq rfl, fun base _ _ => ?_⟩
  have bl : ∀ x ∈ blNames, mg x = none := by
    intro x hx
    simp only [blNames, List.mem_cons, List.not_mem_nil, or_false] at hx
    rcases hx with rfl | rfl | rfl | rfl | rfl | rfl | rfl | rfl | rfl | rfl | rfl | rfl | rfl | rfl | rfl | rfl | rfl | rfl
    · exact PySem.W.mg_none_of X G z_len
    · exact PySem.W.mg_none_of X G z_all
    · exact PySem.W.mg_none_of X G z_any
    · exact PySem.W.mg_none_of X G z_tuple
    · exact PySem.W.mg_none_of X G z_list
    · exact PySem.W.mg_none_of X G z_set
    · exact PySem.W.mg_none_of X G z_sorted
    · exact PySem.W.mg_none_of X G z_int
    · exact PySem.W.mg_none_of X G z_abs
    · exact PySem.W.mg_none_of X G z_divmod
    · exact PySem.W.mg_none_of X G z_min
    · exact PySem.W.mg_none_of X G z_max
    · exact PySem.W.mg_none_of X G z_sum
    · exact PySem.W.mg_none_of X G z_isinstance
    · exact PySem.W.mg_none_of X G z_dict
    · exact PySem.W.mg_none_of X G z_str
    · exact PySem.W.mg_none_of X G z_bool
    · exact PySem.W.mg_none_of X G z_range
  have gl : ∀ p ∈ gv, ∃ u v, mg (Str.ofString p.1) = some u ∧ RelV v u ∧ ∀ r H, RV K r H p.2 v := by
    intro p hp
    simp only [gv, List.mem_cons, List.not_mem_nil, or_false] at hp
    rcases hp with rfl | rfl | rfl
    · exact gl_str (PySem.W.mg_of X G g_SMALL)
    · exact gl_int (PySem.W.mg_of X G g_MOST_LETTERS)
    · exact gl_int (PySem.W.mg_of X G g_MOST_AGAIN)
  have M0 : Md PySem.Challenge.pw_talehands_k26_what_is_a_plot w K mg base [] gv F0 0 := md0 bl gl
  have M1 := M0.def 0 "is_whole" H0 sc0 b0 1000000 ck0 (PySem.W.mg_of X G a0) B0
  have M2 := M1.def 1 "is_name" H1 sc1 b1 1000000 ck1 (PySem.W.mg_of X G a1) B1
  have M3 := M2.def 2 "is_deed" H2 sc2 b2 1000000 ck2 (PySem.W.mg_of X G a2) B2
  have M13 := M3.def 12 "is_row" H12 sc12 b12 1000000 ck12 (PySem.W.mg_of X G a12) B12
  have M241 : Md PySem.Challenge.pw_talehands_k26_what_is_a_plot w K mg base [(239, "are_plots", 1), (240, "is_plot", 1), (12, "is_row", 1), (2, "is_deed", 1), (1, "is_name", 1), (0, "is_whole", 1)] gv F241 35 := M13.recs 1000000 [⟨239, "are_plots", "are_plots", "are_plots", s239, f239, PySem.W.fnOf "are_plots" "are_plots" (defArgs s239) (defBody s239) (defScope s239) .none kV239 dc239 pm239 an239 cd239 ct239, n239, ["thing"], b239⟩, ⟨240, "is_plot", "is_plot", "is_plot", s240, f240, PySem.W.fnOf "is_plot" "is_plot" (defArgs s240) (defBody s240) (defScope s240) .none kV240 dc240 pm240 an240 cd240 ct240, n240, ["thing"], b240⟩] (fun g hg => by
    simp only [List.mem_cons, List.not_mem_nil, or_false] at hg
    rcases hg with rfl | rfl
    · exact ⟨H239, sc239, ck239, PySem.W.mg_of X G a239, B239⟩
    · exact ⟨H240, sc240, ck240, PySem.W.mg_of X G a240, B240⟩) 30
  have M217 := M241.def 216 "_law_mixed" H216 sc216 b216 1000000 ck216 (PySem.W.mg_of X G a216) B216
  have M218 := M217.def 217 "_law_pack" H217 sc217 b217 1000000 ck217 (PySem.W.mg_of X G a217) B217
  have M94 := M218.def 93 "_law_take" H93 sc93 b93 1000000 ck93 (PySem.W.mg_of X G a93) B93
  have M219 := M94.def 218 "_law_hands" H218 sc218 b218 1000000 ck218 (PySem.W.mg_of X G a218) B218
  have M266 := M219.def 265 "_law_deed" H265 sc265 b265 1000000 ck265 (PySem.W.mg_of X G a265) B265
  have M267 := M266.def 266 "_law_row" H266 sc266 b266 1000000 ck266 (PySem.W.mg_of X G a266) B266
  have M268 : Md PySem.Challenge.pw_talehands_k26_what_is_a_plot w K mg base [(267, "_law_plot", 3), (266, "_law_row", 3), (265, "_law_deed", 2), (218, "_law_hands", 1), (93, "_law_take", 2), (217, "_law_pack", 2), (216, "_law_mixed", 1), (239, "are_plots", 1), (240, "is_plot", 1), (12, "is_row", 1), (2, "is_deed", 1), (1, "is_name", 1), (0, "is_whole", 1)] gv F268 72 := M267.recs 1000000 [⟨267, "_law_plot", "_law_plot", "_law_plot", s267, f267, PySem.W.fnOf "_law_plot" "_law_plot" (defArgs s267) (defBody s267) (defScope s267) .none kV267 dc267 pm267 an267 cd267 ct267, n267, ["_law_pack_here", "_law_names", "_law_deep"], b267⟩] (fun g hg => by
    simp only [List.mem_cons, List.not_mem_nil, or_false] at hg
    rcases hg with rfl
    · exact ⟨H267, sc267, ck267, PySem.W.mg_of X G a267, B267⟩) 30
  have M269 := M268.def 268 "_law_is_name" H268 sc268 b268 1000000 ck268 (PySem.W.mg_of X G a268) B268
  have M270 := M269.def 269 "_law_is_deed" H269 sc269 b269 1000000 ck269 (PySem.W.mg_of X G a269) B269
  have M271 : Md PySem.Challenge.pw_talehands_k26_what_is_a_plot w K mg base [(270, "_law_is_plot", 1), (269, "_law_is_deed", 1), (268, "_law_is_name", 1), (267, "_law_plot", 3), (266, "_law_row", 3), (265, "_law_deed", 2), (218, "_law_hands", 1), (93, "_law_take", 2), (217, "_law_pack", 2), (216, "_law_mixed", 1), (239, "are_plots", 1), (240, "is_plot", 1), (12, "is_row", 1), (2, "is_deed", 1), (1, "is_name", 1), (0, "is_whole", 1)] gv F271 105 := M270.recs 1000000 [⟨270, "_law_is_plot", "_law_is_plot", "_law_is_plot", s270, f270, PySem.W.fnOf "_law_is_plot" "_law_is_plot" (defArgs s270) (defBody s270) (defScope s270) .none kV270 dc270 pm270 an270 cd270 ct270, n270, ["_law_thing"], b270⟩] (fun g hg => by
    simp only [List.mem_cons, List.not_mem_nil, or_false] at hg
    rcases hg with rfl
    · exact ⟨H270, sc270, ck270, PySem.W.mg_of X G a270, B270⟩) 30
  have M272 := M271.def 271 "_law_same" H271 sc271 b271 1000000 ck271 (PySem.W.mg_of X G a271) B271
  have M273 := M272.def 272 "_law_spoilt_here" H272 sc272 b272 1000000 ck272 (PySem.W.mg_of X G a272) B272
  have M274 : Md PySem.Challenge.pw_talehands_k26_what_is_a_plot w K mg base [(273, "_law_spoilt", 2), (272, "_law_spoilt_here", 2), (271, "_law_same", 2), (270, "_law_is_plot", 1), (269, "_law_is_deed", 1), (268, "_law_is_name", 1), (267, "_law_plot", 3), (266, "_law_row", 3), (265, "_law_deed", 2), (218, "_law_hands", 1), (93, "_law_take", 2), (217, "_law_pack", 2), (216, "_law_mixed", 1), (239, "are_plots", 1), (240, "is_plot", 1), (12, "is_row", 1), (2, "is_deed", 1), (1, "is_name", 1), (0, "is_whole", 1)] gv F274 138 := M273.recs 1000000 [⟨273, "_law_spoilt", "_law_spoilt", "_law_spoilt", s273, f273, PySem.W.fnOf "_law_spoilt" "_law_spoilt" (defArgs s273) (defBody s273) (defScope s273) .none kV273 dc273 pm273 an273 cd273 ct273, n273, ["_law_pack_here", "_law_plot_here"], b273⟩] (fun g hg => by
    simp only [List.mem_cons, List.not_mem_nil, or_false] at hg
    rcases hg with rfl
    · exact ⟨H273, sc273, ck273, PySem.W.mg_of X G a273, B273⟩) 30
  exact law_impB (def_ok M274 H274 sc274 1000000 ck274) lt
end
end TH.K26
open PySem PySem.W PyProof.Rows
set_option maxHeartbeats 0 in
theorem PySem.Challenge.cw_talehands_k26_what_is_a_plot_holds : PySem.Challenge.rw_talehands_k26_what_is_a_plot.Holds := by
  w_on; o_law; k_head; (case hw => w_witness2)
  k_fill
  refine L2.walk_ofB (l := PySem.Challenge.rw_talehands_k26_what_is_a_plot) (n := 63) (k := 139) (x := "_law_script") (CX := fun _ => L2.CX0) (sp := fun w => TH.spLawB 63 _) rfl (by decide) rfl ⟨rfl, by decide, by decide⟩ (fun w h Y => PySem.W.kIn_of Y) ?F (fun _ _ a ns hl hb hO hS => ⟨a, ns, rfl, TH.lk_of hO hS, hl, fun z hz => TH.bits_nat (hb z hz), fun _ => rfl⟩) (fun _ _ _ _ _ h => h)
  case F =>
    intro w mg fa h KX G hmg
    refine' TH.K26.all_mk KX G hmg ?a0 ?l0 ?c0 ?k0 ?a1 ?l1 ?c1 ?k1 ?a2 ?l2 ?c2 ?k2 ?a12 ?l12 ?c12 ?k12 ?a239 ?l239 ?c239 ?k239 ?a240 ?l240 ?c240 ?k240 ?a216 ?l216 ?c216 ?k216 ?a217 ?l217 ?c217 ?k217 ?a93 ?l93 ?c93 ?k93 ?a218 ?l218 ?c218 ?k218 ?a265 ?l265 ?c265 ?k265 ?a266 ?l266 ?c266 ?k266 ?a267 ?l267 ?c267 ?k267 ?a268 ?l268 ?c268 ?k268 ?a269 ?l269 ?c269 ?k269 ?a270 ?l270 ?c270 ?k270 ?a271 ?l271 ?c271 ?k271 ?a272 ?l272 ?c272 ?k272 ?a273 ?l273 ?c273 ?k273 ?a274 ?l274 ?c274 ?k274 ?g_SMALL ?g_MOST_LETTERS ?g_MOST_AGAIN ?z_len ?z_all ?z_any ?z_tuple ?z_list ?z_set ?z_sorted ?z_int ?z_abs ?z_divmod ?z_min ?z_max ?z_sum ?z_isinstance ?z_dict ?z_str ?z_bool ?z_range TH.K26.law_true
    (case a0 => k_is); (case l0 => k_is); (case c0 => k_is); (case k0 => k_is); (case a1 => k_is); (case l1 => k_is); (case c1 => k_is); (case k1 => k_is); (case a2 => k_is); (case l2 => k_is); (case c2 => k_is); (case k2 => k_is); (case a12 => k_is); (case l12 => k_is); (case c12 => k_is); (case k12 => k_is); (case a239 => k_is); (case l239 => k_is); (case c239 => k_is); (case k239 => k_is); (case a240 => k_is); (case l240 => k_is); (case c240 => k_is); (case k240 => k_is); (case a216 => k_is); (case l216 => k_is); (case c216 => k_is); (case k216 => k_is); (case a217 => k_is); (case l217 => k_is); (case c217 => k_is); (case k217 => k_is); (case a93 => k_is); (case l93 => k_is); (case c93 => k_is); (case k93 => k_is); (case a218 => k_is); (case l218 => k_is); (case c218 => k_is); (case k218 => k_is); (case a265 => k_is); (case l265 => k_is); (case c265 => k_is); (case k265 => k_is); (case a266 => k_is); (case l266 => k_is); (case c266 => k_is); (case k266 => k_is); (case a267 => k_is); (case l267 => k_is); (case c267 => k_is); (case k267 => k_is); (case a268 => k_is); (case l268 => k_is); (case c268 => k_is); (case k268 => k_is); (case a269 => k_is); (case l269 => k_is); (case c269 => k_is); (case k269 => k_is); (case a270 => k_is); (case l270 => k_is); (case c270 => k_is); (case k270 => k_is); (case a271 => k_is); (case l271 => k_is); (case c271 => k_is); (case k271 => k_is); (case a272 => k_is); (case l272 => k_is); (case c272 => k_is); (case k272 => k_is); (case a273 => k_is); (case l273 => k_is); (case c273 => k_is); (case k273 => k_is); (case a274 => k_is); (case l274 => k_is); (case c274 => k_is); (case k274 => k_is); (case g_SMALL => k_is); (case g_MOST_LETTERS => k_is); (case g_MOST_AGAIN => k_is); (case z_len => k_is); (case z_all => k_is); (case z_any => k_is); (case z_tuple => k_is); (case z_list => k_is); (case z_set => k_is); (case z_sorted => k_is); (case z_int => k_is); (case z_abs => k_is); (case z_divmod => k_is); (case z_min => k_is); (case z_max => k_is); (case z_sum => k_is); (case z_isinstance => k_is); (case z_dict => k_is); (case z_str => k_is); (case z_bool => k_is); (case z_range => k_is)

