import PyProof.Rows.All
import Wide.All
import OpenK.AllK
import Wide.FinOn
import HandS.ForMost
import HandS.Wide
import HandS.Conv
import HandS.TupAny
import HandS.Deep
import KE.DataEq
import KE.SortData
import KE.KIndexOf
import HandS.TupLe
import HandS.SortInts
import HandS.IsInst
import HandS.More
import HandS.Small
import HandS.Style
import HandS.Zip
import HandS.Set
import HandS.SetFor
import HandS.TupSets
import HandS.SetKeys
import KE.KDictPairs
import HandS.Words
import PySem.Challenge.RW_costsforetold_k06_whole_places_and_rings
set_option Elab.async false
set_option linter.all false
set_option maxRecDepth 100000
section
/-! PvA: values as data, a small language of pure Python with locals that own their lists and dicts, and what it does. -/
namespace Pv

/-- data: what never changes -/
inductive D where
  | non | bl (b : Bool) | int (i : Int) | str (s : List Nat) | tup (l : List D) | lst (l : List D) | dic (l : List (D × D))
  deriving Repr, Inhabited

mutual
def D.beq : D → D → Bool
  | .non, .non => true
  | .bl a, .bl b => a == b
  | .int a, .int b => a == b
  | .str a, .str b => a == b
  | .tup a, .tup b => D.beqs a b
  | .lst a, .lst b => D.beqs a b
  | .dic a, .dic b => D.beqp a b
  | _, _ => false
def D.beqs : List D → List D → Bool
  | [], [] => true
  | a :: l, b :: m => D.beq a b && D.beqs l m
  | _, _ => false
def D.beqp : List (D × D) → List (D × D) → Bool
  | [], [] => true
  | (a, x) :: l, (b, y) :: m => D.beq a b && D.beq x y && D.beqp l m
  | _, _ => false
end

mutual
/-- Python's ==, of what holds no dict -/
def eqs : D → D → Bool
  | .non, .non => true
  | .bl a, .bl b => a == b
  | .bl a, .int i => (if a then 1 else 0) == i
  | .int i, .bl a => i == (if a then 1 else 0)
  | .int a, .int b => a == b
  | .str a, .str b => a == b
  | .tup a, .tup b => eqsL a b
  | .lst a, .lst b => eqsL a b
  | _, _ => false
def eqsL : List D → List D → Bool
  | [], [] => true
  | a :: l, b :: m => eqs a b && eqsL l m
  | _, _ => false
end
mutual
/-- nothing in it is a dict -/
def noDic : D → Bool
  | .tup l => noDics l
  | .lst l => noDics l
  | .dic _ => false
  | _ => true
def noDics : List D → Bool
  | [] => true
  | a :: l => noDic a && noDics l
end
mutual
def dep : D → Nat
  | .tup l => deps l + 1
  | .lst l => deps l + 1
  | _ => 0
def deps : List D → Nat
  | [] => 0
  | a :: l => max (dep a) (deps l)
end

/-- a result, what a slot holds: data, or a list or dict of one's own -/
inductive R where
  | v (d : D) | l (xs : List D) | m (kvs : List (D × D))
  deriving Repr, Inhabited
def R.frz : R → D
  | .v d => d
  | .l xs => .lst xs
  | .m kvs => .dic kvs
def R.own : R → Bool
  | .v _ => false
  | _ => true

abbrev Env := List (Option R)
def get (σ : Env) (i : Nat) : Option R := (σ[i]?).join

inductive Out (α : Type) where
  | ok (a : α) (σ : Env) | no
  deriving Repr
def Out.bind {α β : Type} (x : Out α) (f : α → Env → Out β) : Out β := match x with
  | .ok a σ => f a σ
  | .no => .no
def ofO {α : Type} (x : Option α) (σ : Env) : Out α := match x with
  | some a => .ok a σ
  | none => .no

def kind : D → Nat
  | .non => 0
  | .bl _ => 1
  | .int _ => 2
  | .str _ => 3
  | .tup _ => 4
  | .lst _ => 5
  | .dic _ => 6
/-- an operand that is not yet read: a name's slot, what kind stood there -/
inductive P where
  | d (d : D) | s (i : Nat) (k : Nat)
  deriving Repr
def fetch (σ : Env) : P → Option D
  | .d d => some d
  | .s i k => (get σ i).bind fun r => if kind r.frz = k then some r.frz else none
def fetchs (σ : Env) : List P → Option (List D)
  | [] => some []
  | p :: ps => (fetch σ p).bind fun d => (fetchs σ ps).map fun ds => d :: ds

/-- isinstance's kinds -/
inductive Ty where
  | int | bool | str | tuple | list | dict
  deriving Repr, DecidableEq
def isTy : Ty → D → Bool
  | .int, .int _ => true
  | .int, .bl _ => true
  | .bool, .bl _ => true
  | .str, .str _ => true
  | .tuple, .tup _ => true
  | .list, .lst _ => true
  | .dict, .dic _ => true
  | _, _ => false

inductive Op where
  | tup | lst | dic
  | add | sub | mul | fdiv | mod | pow | neg
  | eq | ne | lt | le | gt | ge | in_ | nin | isN | isnN
  | ix | sl (lo hi : Bool) | rev
  | len | abs | max | min | maxL | minL | sum | sorted | sset | tupleOf | listOf | dictOf | intOf | strOf | all | any
  | isi (t : Ty) | get | get2 | range | zip | join | tupRange
  | mulL | gtT | index
  deriving Repr, DecidableEq

/-- the greatest size of a row -/
def lim : Nat := 16777216
def small (n : Nat) : Bool := decide (n < lim)
/-- a product's size -/
def mulOk (i j : Int) : Bool := decide (i.natAbs < 2 ^ 64) || decide (j.natAbs < 2 ^ 64)
/-- an index, from the end if it is below 0 -/
def ixN (n : Nat) (i : Int) : Option Nat :=
  if 0 ≤ i then (if i < n then some i.toNat else none) else (if -(n : Int) ≤ i then some (i + n).toNat else none)
/-- a slice's end -/
def slN (n : Nat) (i : Int) : Nat := if 0 ≤ i then min i.toNat n else (n + i).toNat
def cut {α : Type} (l : List α) (lo hi : Option Int) : List α :=
  let a := match lo with | some i => slN l.length i | none => 0
  let b := match hi with | some i => slN l.length i | none => l.length
  (l.drop a).take (b - a)
def mlook (kvs : List (D × D)) (k : D) : Option D := match kvs with
  | [] => none
  | (a, x) :: r => if D.beq a k then some x else mlook r k
def mhas (kvs : List (D × D)) (k : D) : Bool := (mlook kvs k).isSome
def mset (kvs : List (D × D)) (k v : D) : List (D × D) := kvs.map fun p => if D.beq p.1 k = true then (p.1, v) else p
def mput (kvs : List (D × D)) (k v : D) : List (D × D) := if mhas kvs k = true then mset kvs k v else kvs ++ [(k, v)]
def mdel (kvs : List (D × D)) (k : D) : List (D × D) := kvs.filter fun p => !D.beq p.1 k
def ltL : List Nat → List Nat → Bool
  | [], [] => false
  | [], _ :: _ => true
  | _ :: _, [] => false
  | a :: l, b :: m => a < b || (a == b && ltL l m)
mutual
/-- Python's <, where it is defined here -/
def lts : D → D → Option Bool
  | .int a, .int b => some (decide (a < b))
  | .str a, .str b => some (ltL a b)
  | .tup a, .tup b => ltsL a b
  | _, _ => none
def ltsL : List D → List D → Option Bool
  | [], [] => some false
  | [], _ :: _ => some true
  | _ :: _, [] => some false
  | a :: l, b :: m => if eqs a b then ltsL l m else lts a b
end
def toInts : List D → Option (List Int)
  | [] => some []
  | .int i :: r => (toInts r).map (i :: ·)
  | _ :: _ => none
def toBools : List D → Option (List Bool)
  | [] => some []
  | .bl i :: r => (toBools r).map (i :: ·)
  | _ :: _ => none
def toStrs : List D → Option (List (List Nat))
  | [] => some []
  | .str i :: r => (toStrs r).map (i :: ·)
  | _ :: _ => none
def pairsOf : List D → Option (List (D × D))
  | [] => some []
  | .tup [a, b] :: r => (pairsOf r).map ((a, b) :: ·)
  | _ :: _ => none
/-- a row's items -/
def rowOf : D → Option (List D)
  | .tup l => some l
  | .lst l => some l
  | _ => none
def isStr : D → Bool
  | .str _ => true
  | _ => false
def isInt : D → Bool
  | .int _ => true
  | _ => false
def noRow : D → Bool
  | .lst _ => false
  | .dic _ => false
  | _ => true
/-- a key of a dict: a number, a text, a tuple of such -/
def keyOk : D → Bool
  | .int _ => true
  | .str _ => true
  | _ => false
def insI (a : Int) : List Int → List Int
  | [] => [a]
  | b :: r => if b < a then b :: insI a r else a :: b :: r
def sortI : List Int → List Int
  | [] => []
  | a :: r => insI a (sortI r)
def insS (a : List Nat) : List (List Nat) → List (List Nat)
  | [] => [a]
  | b :: r => if ltL b a then b :: insS a r else a :: b :: r
def sortS : List (List Nat) → List (List Nat)
  | [] => []
  | a :: r => insS a (sortS r)
def ltI : List Int → List Int → Bool
  | [], [] => false
  | [], _ :: _ => true
  | _ :: _, [] => false
  | a :: l, b :: m => a < b || (a == b && ltI l m)
def insR (a : List Int) : List (List Int) → List (List Int)
  | [] => [a]
  | b :: r => if ltI b a then b :: insR a r else a :: b :: r
def sortR : List (List Int) → List (List Int)
  | [] => []
  | a :: r => insR a (sortR r)
/-- tuples of numbers, none empty -/
def rowD (r : List Int) : D := .tup (r.map .int)
def toRows : List D → Option (List (List Int))
  | [] => some []
  | .tup l :: r => (toInts l).bind fun ns => if ns.isEmpty then none else (toRows r).map (ns :: ·)
  | _ :: _ => none
/-- rows of numbers alone, or of texts alone, in order -/
def sortD (l : List D) : Option (List D) := match toInts l with
  | some ns => some ((sortI ns).map .int)
  | none => match toStrs l with
    | some ss => if ss.length < 64 then some ((sortS ss).map .str) else none
    | none => none
def dedup : List D → List D
  | [] => []
  | a :: r => if r.any (D.beq a) then dedup r else a :: dedup r
def intText (i : Int) : List Nat := (toString i).toList.map Char.toNat
def zipD : List D → List D → List D
  | a :: l, b :: m => .tup [a, b] :: zipD l m
  | _, _ => []
def joinS (sep : List Nat) : List (List Nat) → List Nat
  | [] => []
  | [a] => a
  | a :: b :: r => a ++ sep ++ joinS sep (b :: r)
def maxI : List Int → Option Int
  | [] => none
  | a :: r => match maxI r with | none => some a | some b => some (if a < b then b else a)
def minI : List Int → Option Int
  | [] => none
  | a :: r => match minI r with | none => some a | some b => some (if b < a then b else a)
def rangeD (a b : Int) : List D := (List.range (b - a).toNat).map fun (k : Nat) => D.int (a + (k : Int))

def o_tup : List D → Option R
  | ds => if small ds.length then some (.v (.tup ds)) else none
def o_lst : List D → Option R
  | ds => if small ds.length then some (.l ds) else none
def pairUp : List D → Option (List (D × D))
  | [] => some []
  | a :: b :: r => (pairUp r).map ((a, b) :: ·)
  | _ => none
def mputs (ps : List (D × D)) : List (D × D) := ps.foldl (fun m p => mput m p.1 p.2) []
def o_dic : List D → Option R
  | ds => (pairUp ds).bind fun ps => if ps.all (fun p => keyOk p.1) && decide (ps.length ≤ 15) then some (.m (mputs ps)) else none
def o_add : List D → Option R
  | [.int i, .int j] => some (.v (.int (i + j)))
  | [.str a, .str b] => if small (a.length + b.length) then some (.v (.str (a ++ b))) else none
  | [.tup a, .tup b] => if small (a.length + b.length) then some (.v (.tup (a ++ b))) else none
  | [.lst a, .lst b] => if small (a.length + b.length) then some (.l (a ++ b)) else none
  | _ => none
def o_sub : List D → Option R
  | [.int i, .int j] => some (.v (.int (i - j)))
  | _ => none
def o_mul : List D → Option R
  | [.int i, .int j] => if mulOk i j then some (.v (.int (i * j))) else none
  | _ => none
def o_fdiv : List D → Option R
  | [.int i, .int j] => if 0 < j && j < 1073741824 then some (.v (.int (i / j))) else none
  | _ => none
def o_mod : List D → Option R
  | [.int i, .int j] => if 0 < j then some (.v (.int (i % j))) else none
  | _ => none
def o_pow : List D → Option R
  | [.int i, .int j] => if 0 ≤ j && j ≤ 1000000 && i.natAbs < 2 ^ 64 then some (.v (.int (i ^ j.toNat))) else none
  | _ => none
def o_neg : List D → Option R
  | [.int i] => some (.v (.int (-i)))
  | _ => none
def o_eq : List D → Option R
  | [.dic a, .dic []] => some (.v (.bl a.isEmpty))
  | [a, b] => if noDic a && noDic b && dep a ≤ 60 && dep b ≤ 60 then some (.v (.bl (eqs a b))) else none
  | _ => none
def o_ne : List D → Option R
  | [.dic a, .dic []] => some (.v (.bl (!a.isEmpty)))
  | [a, b] => if noDic a && noDic b && dep a ≤ 60 && dep b ≤ 60 then some (.v (.bl (!eqs a b))) else none
  | _ => none
def o_lt : List D → Option R
  | [.int a, .int b] => some (.v (.bl (decide (a < b))))
  | [.str a, .str b] => some (.v (.bl (ltL a b)))
  | _ => none
def o_gt : List D → Option R
  | [.int a, .int b] => some (.v (.bl (decide (b < a))))
  | [.str a, .str b] => some (.v (.bl (ltL b a)))
  | _ => none
def o_le : List D → Option R
  | [.int a, .int b] => some (.v (.bl (decide (a ≤ b))))
  | _ => none
def o_ge : List D → Option R
  | [.int a, .int b] => some (.v (.bl (decide (b ≤ a))))
  | _ => none
def o_in_ : List D → Option R
  | [.str [c], .str s] => some (.v (.bl (decide (c ∈ s))))
  | [k, .dic kvs] => if keyOk k then some (.v (.bl (mhas kvs k))) else none
  | [k, .tup l] => if noDic k && noDics l && dep k ≤ 60 && deps l ≤ 60 then some (.v (.bl (l.any fun x => eqs x k))) else none
  | [k, .lst l] => if noDic k && noDics l && dep k ≤ 60 && deps l ≤ 60 then some (.v (.bl (l.any fun x => eqs x k))) else none
  | _ => none
def o_nin : List D → Option R
  | [.str [c], .str s] => some (.v (.bl (!decide (c ∈ s))))
  | [k, .dic kvs] => if keyOk k then some (.v (.bl (!mhas kvs k))) else none
  | [k, .tup l] => if noDic k && noDics l && dep k ≤ 60 && deps l ≤ 60 then some (.v (.bl (!l.any fun x => eqs x k))) else none
  | [k, .lst l] => if noDic k && noDics l && dep k ≤ 60 && deps l ≤ 60 then some (.v (.bl (!l.any fun x => eqs x k))) else none
  | _ => none
def o_isN : List D → Option R
  | [d] => some (.v (.bl (match d with | .non => true | _ => false)))
  | _ => none
def o_isnN : List D → Option R
  | [d] => some (.v (.bl (match d with | .non => false | _ => true)))
  | _ => none
def o_ix : List D → Option R
  | [.tup l, .int i] => ((ixN l.length i).bind fun j => l[j]?).map .v
  | [.lst l, .int i] => ((ixN l.length i).bind fun j => l[j]?).map .v
  | [.str s, .int i] => if small s.length then ((ixN s.length i).bind fun j => s[j]?).map fun c => .v (.str [c]) else none
  | [.dic kvs, k] => if keyOk k then (mlook kvs k).map .v else none
  | _ => none
def bounds : Bool → Bool → List D → Option (Option Int × Option Int)
  | true, true, [.int i, .int j] => some (some i, some j)
  | true, false, [.int i] => some (some i, none)
  | false, true, [.int j] => some (none, some j)
  | _, _, _ => none
def slD (lo hi : Option Int) : D → Option R
  | .tup l => some (.v (.tup (cut l lo hi)))
  | .lst l => some (.l (cut l lo hi))
  | .str l => if small l.length then some (.v (.str (cut l lo hi))) else none
  | _ => none
def o_sl (lo hi : Bool) : List D → Option R
  | d :: r => (bounds lo hi r).bind fun p => slD p.1 p.2 d
  | _ => none
def o_rev : List D → Option R
  | [.lst l] => some (.l l.reverse)
  | [.tup l] => some (.v (.tup l.reverse))
  | _ => none
def o_len : List D → Option R
  | [.tup l] => some (.v (.int l.length))
  | [.lst l] => some (.v (.int l.length))
  | [.str l] => if small l.length then some (.v (.int l.length)) else none
  | [.dic l] => some (.v (.int l.length))
  | _ => none
def o_abs : List D → Option R
  | [.int i] => some (.v (.int i.natAbs))
  | _ => none
def o_max : List D → Option R
  | [.int i, .int j] => some (.v (.int (if i < j then j else i)))
  | _ => none
def o_min : List D → Option R
  | [.int i, .int j] => some (.v (.int (if j < i then j else i)))
  | _ => none
def o_maxL : List D → Option R
  | [.lst l] => (toInts l).bind fun l => (maxI l).map fun i => .v (.int i)
  | _ => none
def o_minL : List D → Option R
  | [.lst l] => (toInts l).bind fun l => (minI l).map fun i => .v (.int i)
  | _ => none
def o_sum : List D → Option R
  | [.lst l] => (toInts l).map fun l => .v (.int l.sum)
  | _ => none
def o_sorted : List D → Option R
  | [.lst l] => match sortD l with
    | some r => some (.l r)
    | none => if l.length < 100000 then (toRows l).map fun rs => .l ((sortR rs).map rowD) else none
  | [.dic kvs] => if kvs.length < 64 then (sortD (kvs.map (·.1))).map .l else none
  | [.tup l] => (toInts l).map fun ns => .l ((sortI ns).map .int)
  | _ => none
def o_sset : List D → Option R
  | [.lst l] => if l.length < 1000 then (sortD (dedup l)).map .l else none
  | [.tup l] => if l.length < 1000 then (sortD (dedup l)).map .l else none
  | _ => none
def o_tupleOf : List D → Option R
  | [.lst l] => some (.v (.tup l))
  | [.tup l] => some (.v (.tup l))
  | _ => none
def o_listOf : List D → Option R
  | [.lst l] => some (.l l)
  | [.tup l] => some (.l l)
  | [.dic kvs] => some (.l (kvs.map (·.1)))
  | _ => none
def o_dictOf : List D → Option R
  | [.lst l] => (pairsOf l).bind fun ps => if ps.all fun p => keyOk p.1 then some (.m (mputs ps)) else none
  | [.tup l] => (pairsOf l).bind fun ps => if ps.all fun p => keyOk p.1 then some (.m (mputs ps)) else none
  | [.dic kvs] => some (.m kvs)
  | _ => none
def o_intOf : List D → Option R
  | [.int i] => some (.v (.int i))
  | [.bl b] => some (.v (.int (if b then 1 else 0)))
  | _ => none
def o_strOf : List D → Option R
  | [.int i] => if i.natAbs < 2 ^ 64 then some (.v (.str (intText i))) else none
  | _ => none
def o_all : List D → Option R
  | [.lst l] => (toBools l).map fun l => .v (.bl (l.all id))
  | _ => none
def o_any : List D → Option R
  | [.lst l] => (toBools l).map fun l => .v (.bl (l.any id))
  | _ => none
def o_isi (t : Ty) : List D → Option R
  | [d] => some (.v (.bl (isTy t d)))
  | _ => none
def o_get : List D → Option R
  | [.dic kvs, k] => if keyOk k then some (.v ((mlook kvs k).getD .non)) else none
  | _ => none
def o_get2 : List D → Option R
  | [.dic kvs, k, x] => if keyOk k && noRow x then some (.v ((mlook kvs k).getD x)) else none
  | _ => none
def o_join : List D → Option R
  | [.str s, .lst l] => (toStrs l).bind fun l => let t := joinS s l; if small t.length then some (.v (.str t)) else none
  | _ => none
def o_tupRange : List D → Option R
  | [.int i] => if 0 ≤ i && i ≤ 16777216 then some (.v (.tup (rangeD 0 i))) else none
  | _ => none
def o_mulL : List D → Option R
  | [.lst l, .int n] => if 0 ≤ n && n ≤ 1 && small l.length then some (.l (if n = 1 then l else [])) else none
  | _ => none
def o_gtT : List D → Option R
  | [.tup a, .tup b] => (toInts a).bind fun a => (toInts b).map fun b => .v (.bl (ltI b a))
  | _ => none
def o_index : List D → Option R
  | [.tup l, .int k] => (toInts l).bind fun l => if k ∈ l then some (.v (.int (l.idxOf k : Nat))) else none
  | _ => none
def opD : Op → List D → Option R
  | .tup, ds => o_tup ds
  | .lst, ds => o_lst ds
  | .dic, ds => o_dic ds
  | .add, ds => o_add ds
  | .sub, ds => o_sub ds
  | .mul, ds => o_mul ds
  | .fdiv, ds => o_fdiv ds
  | .mod, ds => o_mod ds
  | .pow, ds => o_pow ds
  | .neg, ds => o_neg ds
  | .eq, ds => o_eq ds
  | .ne, ds => o_ne ds
  | .lt, ds => o_lt ds
  | .gt, ds => o_gt ds
  | .le, ds => o_le ds
  | .ge, ds => o_ge ds
  | .in_, ds => o_in_ ds
  | .nin, ds => o_nin ds
  | .isN, ds => o_isN ds
  | .isnN, ds => o_isnN ds
  | .ix, ds => o_ix ds
  | .sl lo hi, ds => o_sl lo hi ds
  | .rev, ds => o_rev ds
  | .len, ds => o_len ds
  | .abs, ds => o_abs ds
  | .max, ds => o_max ds
  | .min, ds => o_min ds
  | .maxL, ds => o_maxL ds
  | .minL, ds => o_minL ds
  | .sum, ds => o_sum ds
  | .sorted, ds => o_sorted ds
  | .sset, ds => o_sset ds
  | .tupleOf, ds => o_tupleOf ds
  | .listOf, ds => o_listOf ds
  | .dictOf, ds => o_dictOf ds
  | .intOf, ds => o_intOf ds
  | .strOf, ds => o_strOf ds
  | .all, ds => o_all ds
  | .any, ds => o_any ds
  | .isi t, ds => o_isi t ds
  | .get, ds => o_get ds
  | .get2, ds => o_get2 ds
  | .join, ds => o_join ds
  | .tupRange, ds => o_tupRange ds
  | .mulL, ds => o_mulL ds
  | .gtT, ds => o_gtT ds
  | .index, ds => o_index ds
  | .range, _ => none
  | .zip, _ => none

/-- what an operand that is a name hands on: a row that is kept by the result is frozen -/
def Op.keeps : Op → Bool
  | .tup | .lst | .dic => true
  | _ => false

inductive T where
  | v (i : Nat) | t (ts : List T)
  deriving Repr

/-- what a for walks: a value, a range, two rows at once -/
inductive It where
  | val | range | range2 | zip
  deriving Repr, DecidableEq
mutual
inductive E where
  | c (d : D) | v (i : Nat) | op (o : Op) (es : Es) | and (a b : E) | or (a b : E) | not (a : E) | ife (c a b : E)
  | call (f : Nat) (es : Es) | comp (own : List Nat) (t : T) (k : It) (es : Es) (cs : Es) (g : Gs) | pop (i : Nat)
inductive Es where
  | nil | cons (e : E) (es : Es)
inductive Gs where
  | elt (e : E) | cons (t : T) (k : It) (es : Es) (cs : Es) (g : Gs)
end
mutual
inductive S where
  | asg (t : T) (e : E) | par (ts : List Nat) (es : Es) | aug (i : Nat) (o : Op) (e : E) | setix (i : Nat) (k e : E) | augix (i : Nat) (k : E) (o : Op) (e : E)
  | app (i : Nat) (e : E) | ext (i : Nat) (e : E) | popk (i : Nat) (e : E) | expr (e : E) | ret (e : E) | retN
  | ife (c : E) (a b : Ss) | whl (c : E) (b : Ss) (kill : List Nat) | for (t : T) (k : It) (es : Es) (b : Ss) (kill : List Nat) | brk | cnt | pass
inductive Ss where
  | nil | cons (s : S) (ss : Ss)
end

/-- how a block of statements ends -/
inductive Fl where
  | next (σ : Env) | ret (r : R) (σ : Env) | brk (σ : Env) | cnt (σ : Env) | no
  deriving Repr
def Fl.bind (x : Fl) (f : Env → Fl) : Fl := match x with
  | .next σ => f σ
  | x => x
def Out.fl {α : Type} (x : Out α) (f : α → Env → Fl) : Fl := match x with
  | .ok a σ => f a σ
  | .no => .no
/-- how a call ends: its result, and what its inout arguments hold then -/
inductive CR where
  | ok (r : R) (bs : List R) | no
  deriving Repr

def forget : List Nat → Env → Env
  | [], σ => σ
  | i :: r, σ => (forget r σ).set i none
mutual
def T.slots : T → List Nat
  | .v i => [i]
  | .t ts => T.slotss ts
def T.slotss : List T → List Nat
  | [] => []
  | x :: xs => T.slots x ++ T.slotss xs
end
mutual
def assign : T → R → Env → Option Env
  | .v i, r, σ => if i < σ.length then some (σ.set i (some r)) else none
  | .t ts, r, σ => match r with
    | .v (.tup l) => assigns ts l σ
    | _ => none
def assigns : List T → List D → Env → Option Env
  | [], [], σ => some σ
  | t :: ts, d :: ds, σ => (assign t (.v d) σ).bind fun σ => assigns ts ds σ
  | _, _, _ => none
end
/-- a name's data; what it owned is frozen -/
def frzSlot (i : Nat) (σ : Env) : Out D := match get σ i with
  | some (.v d) => .ok d σ
  | some r => .ok r.frz (σ.set i (some (.v r.frz)))
  | none => .no
/-- for: the body by the item -/
def forL (body : D → Env → Fl) : List D → Env → Fl
  | [], σ => .next σ
  | d :: ds, σ => match body d σ with
    | .next σ => forL body ds σ
    | .cnt σ => forL body ds σ
    | .brk σ => .next σ
    | x => x
/-- a comprehension's clause: the items, what has been made -/
def compL (body : D → Env → List D → Out (List D)) : List D → Env → List D → Out (List D)
  | [], σ, acc => .ok acc σ
  | d :: ds, σ, acc => (body d σ acc).bind fun acc σ => compL body ds σ acc
/-- the items that are walked -/
def itemsOf : D → Option (List D)
  | .tup l => some l
  | .lst l => some l
  | .dic kvs => some (kvs.map (·.1))
  | .str s => some (s.map fun c => .str [c])
  | _ => none
def inR (i : Int) : Bool := decide (-(2 ^ 62) ≤ i) && decide (i < 2 ^ 62)
def wVal : List D → Option (List D)
  | [d] => itemsOf d
  | _ => none
def wRange : List D → Option (List D)
  | [.int b] => if inR b then some (rangeD 0 b) else none
  | _ => none
def wRange2 : List D → Option (List D)
  | [.int a, .int b] => if inR a && inR b then some (rangeD a b) else none
  | _ => none
def wZip : List D → Option (List D)
  | [.tup l, .tup m] => some (zipD l m)
  | [.lst l, .lst m] => some (zipD l m)
  | _ => none
def walk : It → List D → Option (List D)
  | .val, ds => wVal ds
  | .range, ds => wRange ds
  | .range2, ds => wRange2 ds
  | .zip, ds => wZip ds
def noOwn (σ : Env) (is : List Nat) : Bool := is.all fun i => match get σ i with
  | some (.v _) => true
  | none => true
  | _ => false
/-- slots put back as they were -/
def restore (σ0 : Env) : List Nat → Env → Env
  | [], σ => σ
  | i :: r, σ => (restore σ0 r σ).set i (get σ0 i)
def putBacks : List Nat → List R → Env → Env
  | i :: is, b :: bs, σ => putBacks is bs (σ.set i (some b))
  | _, _, σ => σ
/-- the arguments: data, or what a slot owns -/
def argsOf (σ : Env) : List (D ⊕ Nat) → Option (List R)
  | [] => some []
  | .inl d :: r => (argsOf σ r).map (.v d :: ·)
  | .inr i :: r => (get σ i).bind fun x => if x.own then (argsOf σ r).map (x :: ·) else none
def noDup : List Nat → Bool
  | [] => true
  | i :: r => !r.contains i && noDup r
def iosOf : List (D ⊕ Nat) → List Nat
  | [] => []
  | .inl _ :: r => iosOf r
  | .inr i :: r => i :: iosOf r

/-- what runs a while, what calls, which parameters are inout -/
structure Ctx where
  wh : (Env → Out Bool) → (Env → Fl) → Env → Fl
  cf : Nat → List R → CR
  io : Nat → List Bool

section
variable (C : Ctx)
mutual
def ev : E → Env → Out R
  | .c d, σ => .ok (.v d) σ
  | .v i, σ => (frzSlot i σ).bind fun d σ => .ok (.v d) σ
  | .op o es, σ => if o.keeps then (evDs es σ).bind fun ds σ => ofO (opD o ds) σ else (evPs es σ).bind fun ps σ => ofO ((fetchs σ ps).bind (opD o)) σ
  | .and a b, σ => (ev a σ).bind fun r σ => match r with
    | .v (.bl true) => ev b σ
    | .v (.bl false) => .ok r σ
    | _ => .no
  | .or a b, σ => (ev a σ).bind fun r σ => match r with
    | .v (.bl true) => .ok r σ
    | .v (.bl false) => ev b σ
    | _ => .no
  | .not a, σ => (ev a σ).bind fun r σ => match r with
    | .v (.bl x) => .ok (.v (.bl (!x))) σ
    | _ => .no
  | .ife c a b, σ => (ev c σ).bind fun r σ => match r with
    | .v (.bl x) => if x then ev a σ else ev b σ
    | _ => .no
  | .call f es, σ => (evAs (C.io f) es σ).bind fun as σ => match argsOf σ as with
    | some rs => if noDup (iosOf as) then (match C.cf f rs with
      | .ok r bs => .ok r (putBacks (iosOf as) bs σ)
      | .no => .no) else .no
    | none => .no
  | .comp own t k es cs g, σ => (evDs es σ).bind fun qs σ1 => if noOwn σ1 own then (ofO (walk k qs) (forget own σ1)).bind fun ds σ =>
      (compL (fun d σ acc => match assign t (.v d) σ with
        | some σ => (evC cs σ).bind fun b σ => if b then (evG g σ acc).bind fun acc σ => .ok acc (forget own σ) else .ok acc (forget own σ)
        | none => .no) ds σ []).bind fun out σ2 => .ok (.l out) (restore σ1 own σ2)
    else .no
  | .pop i, σ => match get σ i with
    | some (.l xs) => (match xs.getLast? with
      | some d => .ok (.v d) (σ.set i (some (.l xs.dropLast)))
      | none => .no)
    | _ => .no
def evPs : Es → Env → Out (List P)
  | .nil, σ => .ok [] σ
  | .cons (.v i) es, σ => match get σ i with
    | some r => (evPs es σ).bind fun ps σ => .ok (.s i (kind r.frz) :: ps) σ
    | none => .no
  | .cons e es, σ => (ev e σ).bind fun r σ => (evPs es σ).bind fun ps σ => .ok (.d r.frz :: ps) σ
def evDs : Es → Env → Out (List D)
  | .nil, σ => .ok [] σ
  | .cons e es, σ => (ev e σ).bind fun r σ => (evDs es σ).bind fun ds σ => .ok (r.frz :: ds) σ
def evAs : List Bool → Es → Env → Out (List (D ⊕ Nat))
  | _, .nil, σ => .ok [] σ
  | true :: io, .cons (.v i) es, σ => match get σ i with
    | some _ => (evAs io es σ).bind fun as σ => .ok (.inr i :: as) σ
    | none => .no
  | true :: _, .cons _ _, _ => .no
  | false :: io, .cons e es, σ => (ev e σ).bind fun r σ => (evAs io es σ).bind fun as σ => .ok (.inl r.frz :: as) σ
  | [], .cons _ _, _ => .no
def evC : Es → Env → Out Bool
  | .nil, σ => .ok true σ
  | .cons c cs, σ => (ev c σ).bind fun r σ => match r with
    | .v (.bl true) => evC cs σ
    | .v (.bl false) => .ok false σ
    | _ => .no
def evG : Gs → Env → List D → Out (List D)
  | .elt e, σ, acc => (ev e σ).bind fun r σ => if small acc.length then .ok (acc ++ [r.frz]) σ else .no
  | .cons t k es cs g, σ, acc => (evDs es σ).bind fun qs σ => (ofO (walk k qs) (forget t.slots σ)).bind fun ds σ => compL (fun d σ acc => match assign t (.v d) σ with
    | some σ => (evC cs σ).bind fun b σ => if b then (evG g σ acc).bind fun acc σ => .ok acc (forget t.slots σ) else .ok acc (forget t.slots σ)
    | none => .no) ds σ acc
end
def evT (c : E) (σ : Env) : Out Bool := (ev C c σ).bind fun r σ => match r with
  | .v (.bl b) => .ok b σ
  | _ => .no
def evRs : Es → Env → Out (List R)
  | .nil, σ => .ok [] σ
  | .cons e es, σ => (ev C e σ).bind fun r σ => (evRs es σ).bind fun rs σ => .ok (r :: rs) σ
def sets : List Nat → List R → Env → Option Env
  | [], [], σ => some σ
  | i :: is, r :: rs, σ => if i < σ.length then sets is rs (σ.set i (some r)) else none
  | _, _, _ => none
def setAt {α : Type} (l : List α) (i : Int) (x : α) : Option (List α) := (ixN l.length i).map fun j => l.set j x
/-- a number or a text -/
def flatD : Option R → Option D
  | some (.v (.int i)) => some (.int i)
  | some (.v (.str s)) => some (.str s)
  | _ => none
def dlook : R → D → Option D
  | .m kvs, k => if keyOk k then mlook kvs k else none
  | _, _ => none
/-- x[k] = d -/
def putIx (i : Nat) (k d : D) (σ : Env) : Fl := match get σ i with
  | some (.m kvs) => if keyOk k && small kvs.length then .next (σ.set i (some (.m (mput kvs k d)))) else .no
  | some (.l xs) => (match k with
    | .int j => (match setAt xs j d with
      | some ys => .next (σ.set i (some (.l ys)))
      | none => .no)
    | _ => .no)
  | _ => .no
mutual
def evS : S → Env → Fl
  | .asg t e, σ => (ev C e σ).fl fun r σ => match assign t r σ with
    | some σ => .next σ
    | none => .no
  | .par ts es, σ => (evRs C es σ).fl fun rs σ => match sets ts rs σ with
    | some σ => .next σ
    | none => .no
  | .aug i o e, σ => match get σ i with
    | some (.v x) => (ev C e σ).fl fun r σ => match flatD (opD o [x, r.frz]) with
      | some z => .next (σ.set i (some (.v z)))
      | none => .no
    | _ => .no
  | .setix i k e, σ => (ev C e σ).fl fun r σ => match get σ i with
    | some _ => (ev C k σ).fl fun q σ => putIx i q.frz r.frz σ
    | none => .no
  | .augix i k o e, σ => match get σ i with
    | some (.m _) => (ev C k σ).fl fun q σ => (match (get σ i).bind fun x => dlook x q.frz with
      | some x => (ev C e σ).fl fun r σ => (match flatD (opD o [x, r.frz]), get σ i with
        | some z, some (.m kvs) => if keyOk q.frz && small kvs.length then .next (σ.set i (some (.m (mput kvs q.frz z)))) else .no
        | _, _ => .no)
      | none => .no)
    | _ => .no
  | .app i e, σ => match get σ i with
    | some (.l _) => (ev C e σ).fl fun r σ => (match get σ i with
      | some (.l xs) => if small xs.length then .next (σ.set i (some (.l (xs ++ [r.frz])))) else .no
      | _ => .no)
    | _ => .no
  | .ext i e, σ => match get σ i with
    | some (.l _) => (ev C e σ).fl fun r σ => (match get σ i, r with
      | some (.l xs), .l ys => if small (xs.length + ys.length) then .next (σ.set i (some (.l (xs ++ ys)))) else .no
      | _, _ => .no)
    | _ => .no
  | .popk i e, σ => match get σ i with
    | some (.m _) => (ev C e σ).fl fun r σ => (match get σ i with
      | some (.m kvs) => if keyOk r.frz && mhas kvs r.frz then .next (σ.set i (some (.m (mdel kvs r.frz)))) else .no
      | _ => .no)
    | _ => .no
  | .expr e, σ => (ev C e σ).fl fun _ σ => .next σ
  | .ret e, σ => (match e with
    | .v i => (match get σ i with
      | some r => .ret r (σ.set i none)
      | none => .no)
    | e => (ev C e σ).fl fun r σ => .ret r σ)
  | .retN, σ => .ret (.v .non) σ
  | .ife c a b, σ => (evT C c σ).fl fun x σ => if x then evSs a σ else evSs b σ
  | .whl c b kill, σ => C.wh (evT C c) (fun σ => match evSs b σ with
    | .next σ => .next (forget kill σ)
    | .cnt σ => .cnt (forget kill σ)
    | .brk σ => .brk (forget kill σ)
    | x => x) (forget kill σ)
  | .for t k es b kill, σ => ((evDs C es σ).bind fun qs σ => ofO (walk k qs) σ).fl fun ds σ => forL (fun d σ => match assign t (.v d) σ with
    | some σ => (match evSs b σ with
      | .next σ => .next (forget kill σ)
      | .cnt σ => .cnt (forget kill σ)
      | .brk σ => .brk (forget kill σ)
      | x => x)
    | none => .no) ds (forget kill σ)
  | .brk, σ => .brk σ
  | .cnt, σ => .cnt σ
  | .pass, σ => .next σ
def evSs : Ss → Env → Fl
  | .nil, σ => .next σ
  | .cons s ss, σ => (evS s σ).bind fun σ => evSs ss σ
end
end

/-- a while, some turns at most -/
def whN : Nat → (Env → Out Bool) → (Env → Fl) → Env → Fl
  | 0, _, _, _ => .no
  | n + 1, c, b, σ => (c σ).fl fun x σ => if x then (match b σ with
    | .next σ => whN n c b σ
    | .cnt σ => whN n c b σ
    | .brk σ => .next σ
    | x => x) else .next σ

structure Fn where
  np : Nat
  ns : Nat
  io : List Bool
  body : Ss
def backs (io : List Bool) (σ : Env) : Option (List R) := match io, σ with
  | true :: io, some r :: σ => if r.own then (backs io σ).map (r :: ·) else none
  | true :: _, _ => none
  | false :: io, _ :: σ => backs io σ
  | false :: _, [] => none
  | [], _ => some []
def ioFits : List Bool → List R → Bool
  | [], [] => true
  | b :: io, r :: rs => (b == r.own) && ioFits io rs
  | _, _ => false
def callF (wh : (Env → Out Bool) → (Env → Fl) → Env → Fl) (tbl : Nat → Option Fn) : Nat → Nat → List R → CR
  | 0, _, _ => .no
  | k + 1, f, rs => match tbl f with
    | none => .no
    | some fn => if ioFits fn.io rs then
        (match evSs ⟨wh, callF wh tbl k, fun f => ((tbl f).map (·.io)).getD []⟩ fn.body (rs.map some ++ List.replicate (fn.ns - fn.np) none) with
        | .ret r σ => (match backs fn.io σ with | some bs => .ok r bs | none => .no)
        | .next σ => (match backs fn.io σ with | some bs => .ok (.v .non) bs | none => .no)
        | _ => .no)
      else .no
end Pv
end
section
/-! PvB: how data and owned rows lie in HandS' abstract heap. -/
namespace Pv
open PySem PySem.Spec PyProof.Rows L2

def st (s : List Nat) : Str := ⟨s.toArray⟩
theorem st_inj {a b : List Nat} (h : st a = st b) : a = b := by
  have e : a.toArray = b.toArray := Str.mk.inj h
  simpa using congrArg Array.toList e
theorem st_len (a : List Nat) : (st a).length = a.length := by simp [st, Str.length]

/-- a frozen list: what stands there is known to the object -/
def FzL (H : Hp) (a : Addr) (vs : List V) : Prop := ∃ o, H a = some (.frz o (.lst vs))
theorem FzL.rd {H : Hp} {a : Addr} {vs : List V} (h : FzL H a vs) : Rd H a (.lst vs) := .inr h

/-- a dict's key as data -/
def keyD : Key → D
  | .inl i => .int i
  | .inr x => .str x.cps.toList
/-- what a dict holds, its keys as data -/
def DictO (u : HO) (kvs : List (D × V)) : Prop := ∃ ks : List (Key × V), u = .dK ks ∧ kvs = ks.map fun p => (keyD p.1, p.2)

/-- a tuple whose object is known to have no dict of its own -/
def PlT (K : PySem.W.Frag) (H : Hp) (a : Addr) (vs : List V) : Prop := (∃ o, H a = some (.frz o (.tup vs)) ∧ o.dict = none) ∨
  ∃ (o : Obj) (its : Array Value) (n : Nat), K.lookup a = some o ∧ o.cls = .type "tuple" ∧ o.dict = none ∧ o.data = .seq its n ∧ its.size ≤ sizeLine ∧ Vals vs its.toList
theorem PlT.sq {K : PySem.W.Frag} {H : Hp} {a : Addr} {vs : List V} (h : PlT K H a vs) : SqT K H a vs := by
  rcases h with ⟨o, h, _⟩ | ⟨o, its, n, h1, h2, h3, h4⟩
  · exact .inl (.inr ⟨o, h⟩)
  · exact .inr ⟨o, its, n, h1, h2, h4⟩
mutual
def Rep (K : PySem.W.Frag) (H : Hp) : D → V → Prop
  | .non, v => v = .non
  | .bl b, v => v = .bl b
  | .int i, v => v = .int i
  | .str s, v => v = .str (st s)
  | .tup l, v => ∃ a vs, v = .ref a ∧ PlT K H a vs ∧ Reps K H l vs
  | .lst l, v => ∃ a vs, v = .ref a ∧ FzL H a vs ∧ Reps K H l vs
  | .dic l, v => ∃ a o u kvs, v = .ref a ∧ H a = some (.frz o u) ∧ DictO u kvs ∧ RepP K H l kvs
def Reps (K : PySem.W.Frag) (H : Hp) : List D → List V → Prop
  | [], vs => vs = []
  | d :: l, vs => ∃ v r, vs = v :: r ∧ Rep K H d v ∧ Reps K H l r
def RepP (K : PySem.W.Frag) (H : Hp) : List (D × D) → List (D × V) → Prop
  | [], kvs => kvs = []
  | (k, d) :: l, kvs => ∃ v r, kvs = (k, v) :: r ∧ Rep K H d v ∧ RepP K H l r
end

/-- what stays: tuples, frozen things -/
def Fx : HO → Prop
  | .tup _ => True
  | .frz _ _ => True
  | _ => False
theorem Fx.nmut {u : HO} (h : Fx u) : ¬ Mut (some u) := by cases u <;> simp_all [Fx, Mut]
def Mono (H H' : Hp) : Prop := ∀ a u, H a = some u → Fx u → H' a = some u
theorem Mono.refl (H : Hp) : Mono H H := fun _ _ h _ => h
theorem Mono.trans {H H1 H2 : Hp} (x : Mono H H1) (y : Mono H1 H2) : Mono H H2 := fun a u h f => y a u (x a u h f) f

section
variable {K : PySem.W.Frag} {H H' : Hp}
theorem SqT.mono (m : Mono H H') {a : Addr} {vs : List V} (h : SqT K H a vs) : SqT K H' a vs := by
  rcases h with (h | ⟨o, h⟩) | h
  · exact .inl (.inl (m _ _ h trivial))
  · exact .inl (.inr ⟨o, m _ _ h trivial⟩)
  · exact .inr h
theorem PlT.mono (m : Mono H H') {a : Addr} {vs : List V} (h : PlT K H a vs) : PlT K H' a vs := by
  rcases h with ⟨o, h, d⟩ | h
  · exact .inl ⟨o, m _ _ h trivial, d⟩
  · exact .inr h
theorem FzL.mono (m : Mono H H') {a : Addr} {vs : List V} (h : FzL H a vs) : FzL H' a vs := by
  obtain ⟨o, h⟩ := h
  exact ⟨o, m _ _ h trivial⟩
mutual
theorem Rep.mono (m : Mono H H') : ∀ (d : D) (v : V), Rep K H d v → Rep K H' d v
  | .non, v, h => h
  | .bl _, v, h => h
  | .int _, v, h => h
  | .str _, v, h => h
  | .tup l, v, h => by
    obtain ⟨a, vs, e, q, r⟩ := h
    exact ⟨a, vs, e, Pv.PlT.mono m q, Reps.mono m l vs r⟩
  | .lst l, v, h => by
    obtain ⟨a, vs, e, q, r⟩ := h
    exact ⟨a, vs, e, Pv.FzL.mono m q, Reps.mono m l vs r⟩
  | .dic l, v, h => by
    obtain ⟨a, o, u, kvs, e, q, t, r⟩ := h
    exact ⟨a, o, u, kvs, e, m _ _ q trivial, t, RepP.mono m l kvs r⟩
theorem Reps.mono (m : Mono H H') : ∀ (l : List D) (vs : List V), Reps K H l vs → Reps K H' l vs
  | [], vs, h => h
  | d :: l, vs, h => by
    obtain ⟨v, r, e, p, q⟩ := h
    exact ⟨v, r, e, Rep.mono m d v p, Reps.mono m l r q⟩
theorem RepP.mono (m : Mono H H') : ∀ (l : List (D × D)) (vs : List (D × V)), RepP K H l vs → RepP K H' l vs
  | [], vs, h => h
  | (k, d) :: l, vs, h => by
    obtain ⟨v, r, e, p, q⟩ := h
    exact ⟨v, r, e, Rep.mono m d v p, RepP.mono m l r q⟩
end
theorem Reps.len : ∀ {l : List D} {vs : List V}, Reps K H l vs → l.length = vs.length
  | [], vs, h => by rw [show vs = [] from h]; rfl
  | d :: l, vs, h => by
    obtain ⟨v, r, e, p, q⟩ := h
    rw [e, List.length_cons, List.length_cons, Reps.len q]
theorem RepP.len : ∀ {l : List (D × D)} {vs : List (D × V)}, RepP K H l vs → l.length = vs.length
  | [], vs, h => by rw [show vs = [] from h]; rfl
  | (k, d) :: l, vs, h => by
    obtain ⟨v, r, e, p, q⟩ := h
    rw [e, List.length_cons, List.length_cons, RepP.len q]
theorem Reps.get : ∀ {l : List D} {vs : List V} {i : Nat} {d : D}, Reps K H l vs → l[i]? = some d → ∃ v, vs[i]? = some v ∧ Rep K H d v
  | [], vs, i, d, _, e => by simp at e
  | x :: l, vs, 0, d, h, e => by
    obtain ⟨v, r, rfl, p, q⟩ := h
    simp at e
    subst e
    exact ⟨v, rfl, p⟩
  | x :: l, vs, i + 1, d, h, e => by
    obtain ⟨v, r, rfl, p, q⟩ := h
    obtain ⟨w, h1, h2⟩ := Reps.get (i := i) q (by simpa using e)
    exact ⟨w, by simpa using h1, h2⟩
theorem Reps.append : ∀ {l m : List D} {vs ws : List V}, Reps K H l vs → Reps K H m ws → Reps K H (l ++ m) (vs ++ ws)
  | [], m, vs, ws, h, q => by rw [show vs = [] from h]; exact q
  | x :: l, m, vs, ws, h, q => by
    obtain ⟨v, r, rfl, p, t⟩ := h
    exact ⟨v, r ++ ws, rfl, p, Reps.append t q⟩
theorem Reps.one {d : D} {v : V} (h : Rep K H d v) : Reps K H [d] [v] := ⟨v, [], rfl, h, rfl⟩
theorem Reps.drop : ∀ {l : List D} {vs : List V} (n : Nat), Reps K H l vs → Reps K H (l.drop n) (vs.drop n)
  | l, vs, 0, h => by simpa using h
  | [], vs, n + 1, h => by rw [show vs = [] from h]; exact rfl
  | x :: l, vs, n + 1, h => by
    obtain ⟨v, r, rfl, p, t⟩ := h
    exact Reps.drop n t
theorem Reps.take : ∀ {l : List D} {vs : List V} (n : Nat), Reps K H l vs → Reps K H (l.take n) (vs.take n)
  | l, vs, 0, h => by exact rfl
  | [], vs, n + 1, h => by rw [show vs = [] from h]; exact rfl
  | x :: l, vs, n + 1, h => by
    obtain ⟨v, r, rfl, p, t⟩ := h
    exact ⟨v, r.take n, rfl, p, Reps.take n t⟩
theorem Reps.set {d : D} {v : V} (hv : Rep K H d v) : ∀ {l : List D} {vs : List V} (i : Nat), Reps K H l vs → Reps K H (l.set i d) (vs.set i v)
  | [], vs, i, h => by rw [show vs = [] from h]; exact rfl
  | x :: l, vs, 0, h => by
    obtain ⟨w, r, rfl, p, t⟩ := h
    exact ⟨v, r, rfl, hv, t⟩
  | x :: l, vs, i + 1, h => by
    obtain ⟨w, r, rfl, p, t⟩ := h
    exact ⟨w, r.set i v, rfl, p, Reps.set hv i t⟩
theorem Reps.reverse : ∀ {l : List D} {vs : List V}, Reps K H l vs → Reps K H l.reverse vs.reverse
  | [], vs, h => by rw [show vs = [] from h]; exact rfl
  | x :: l, vs, h => by
    obtain ⟨w, r, rfl, p, t⟩ := h
    rw [List.reverse_cons, List.reverse_cons]
    exact Reps.append (Reps.reverse t) (Reps.one p)

/-- an owned row -/
def RepR (K : PySem.W.Frag) (H : Hp) : R → V → Prop
  | .v d, v => Rep K H d v
  | .l xs, v => ∃ a vs, v = .ref a ∧ H a = some (.lst vs) ∧ Reps K H xs vs
  | .m l, v => ∃ a u kvs, v = .ref a ∧ H a = some u ∧ DictO u kvs ∧ RepP K H l kvs
/-- what may be read as data now -/
def RepQ (K : PySem.W.Frag) (H : Hp) (d : D) (v : V) : Prop := ∃ r : R, r.frz = d ∧ RepR K H r v
theorem Rep.q {d : D} {v : V} (h : Rep K H d v) : RepQ K H d v := ⟨.v d, rfl, h⟩
theorem DictO.mut {u : HO} {kvs : List (D × V)} (h : DictO u kvs) : Mut (some u) := by
  obtain ⟨ks, rfl, _⟩ := h
  exact trivial
theorem RepR.at {r : R} {v : V} (h : RepR K H r v) (o : r.own = true) : ∃ a u, v = .ref a ∧ H a = some u ∧ Mut (some u) := by
  cases r with
  | v d => cases o
  | l xs => obtain ⟨a, vs, e, q, _⟩ := h; exact ⟨a, _, e, q, trivial⟩
  | m l => obtain ⟨a, u, kvs, e, q, t, _⟩ := h; exact ⟨a, _, e, q, t.mut⟩
theorem RepR.keep {r : R} {v : V} (m : Mono H H') (k : ∀ a u, v = .ref a → H a = some u → r.own = true → H' a = some u) (h : RepR K H r v) : RepR K H' r v := by
  cases r with
  | v d => exact Rep.mono m d v h
  | l xs =>
    obtain ⟨a, vs, e, q, t⟩ := h
    exact ⟨a, vs, e, k a _ e q rfl, Reps.mono m _ _ t⟩
  | m l =>
    obtain ⟨a, u, kvs, e, q, t, s⟩ := h
    exact ⟨a, u, kvs, e, k a _ e q rfl, t, RepP.mono m _ _ s⟩
/-- .. frozen -/
theorem RepR.frozen {r : R} {a : Addr} {u : HO} {od : Obj} (h : RepR K H r (.ref a)) (o : r.own = true) (e : H a = some u) (m : Mono H H') (n : H' a = some (.frz od u)) : Rep K H' r.frz (.ref a) := by
  cases r with
  | v d => cases o
  | l xs =>
    obtain ⟨b, vs, e1, q, t⟩ := h
    cases e1
    rw [q] at e
    cases e
    exact ⟨a, vs, rfl, ⟨od, n⟩, Reps.mono m _ _ t⟩
  | m l =>
    obtain ⟨b, w, kvs, e1, q, t, s⟩ := h
    cases e1
    rw [q] at e
    cases e
    exact ⟨a, od, _, kvs, rfl, n, t, RepP.mono m _ _ s⟩

/-! ### the names -/
/-- the addresses that the names own -/
def Own (σd : Env) (σ : L2.St) (a : Addr) : Prop := ∃ i r, get σd i = some r ∧ r.own = true ∧ σ[i]? = some (some (.ref a))
structure RelE (K : PySem.W.Frag) (H : Hp) (σd : Env) (σ : L2.St) : Prop where
  len : σd.length = σ.length
  at_ : ∀ i r, get σd i = some r → ∃ v, σ[i]? = some (some v) ∧ RepR K H r v
  sep : ∀ i j r s a, i ≠ j → get σd i = some r → get σd j = some s → r.own = true → s.own = true → σ[i]? = some (some (.ref a)) → σ[j]? ≠ some (some (.ref a))
/-- what changed: of what stood only what was owned; what is owned now was so, or is new -/
def Ext (O O' : Addr → Prop) (H H' : Hp) : Prop := (∀ a u, H a = some u → ¬ O a → H' a = some u) ∧ (∀ a, O' a → O a ∨ H a = none)
theorem Ext.refl (O : Addr → Prop) (H : Hp) : Ext O O H H := ⟨fun _ _ h _ => h, fun _ h => .inl h⟩
theorem Ext.trans {O O1 O2 : Addr → Prop} {H H1 H2 : Hp} (x : Ext O O1 H H1) (y : Ext O1 O2 H1 H2) : Ext O O2 H H2 := by
  refine ⟨fun a u h n => ?_, fun a h => ?_⟩
  · refine y.1 a u (x.1 a u h n) fun z => ?_
    rcases x.2 a z with q | q
    · exact n q
    · rw [q] at h; cases h
  · rcases y.2 a h with q | q
    · exact x.2 a q
    · cases e : H a with
      | none => exact .inr rfl
      | some u =>
        by_cases ho : O a
        · exact .inl ho
        · rw [x.1 a u e ho] at q; cases q
theorem Ext.sub {O O1 O' O1' : Addr → Prop} {H H' : Hp} (x : Ext O O1 H H') (f : ∀ a, O a → O' a) (g : ∀ a, O1' a → O1 a) : Ext O' O1' H H' :=
  ⟨fun a u h n => x.1 a u h fun z => n (f a z), fun a h => (x.2 a (g a h)).imp (f a) id⟩
theorem RelE.own {σd : Env} {σ : L2.St} (e : RelE K H σd σ) {a : Addr} (o : Own σd σ a) : ∃ u, H a = some u ∧ Mut (some u) := by
  obtain ⟨i, r, h1, h2, h3⟩ := o
  obtain ⟨v, h4, h5⟩ := e.at_ i r h1
  rw [h3] at h4
  cases h4
  obtain ⟨b, u, h6, h7, h8⟩ := h5.at h2
  cases h6
  exact ⟨u, h7, h8⟩
theorem Ext.mono {O O' : Addr → Prop} (x : Ext O O' H H') (h : ∀ a, O a → ∃ u, H a = some u ∧ Mut (some u)) : Mono H H' := fun a u e f => by
  refine x.1 a u e fun z => ?_
  obtain ⟨w, e2, m⟩ := h a z
  rw [e] at e2
  cases e2
  exact f.nmut m
theorem RelE.mono {σd : Env} {σ : L2.St} {O' : Addr → Prop} (e : RelE K H σd σ) (x : Ext (Own σd σ) O' H H') : Mono H H' := x.mono fun _ o => e.own o

theorem get_lt {σ : Env} {i : Nat} {r : R} (h : get σ i = some r) : i < σ.length := by
  unfold get at h
  cases e : σ[i]? with
  | none => rw [e] at h; cases h
  | some x => exact (List.getElem?_eq_some_iff.mp e).1
theorem get_set_same {σ : Env} {i : Nat} {x : Option R} (h : i < σ.length) : get (σ.set i x) i = x := by
  unfold get
  rw [List.getElem?_set_self h]
  rfl
theorem get_set_ne {σ : Env} {i j : Nat} {x : Option R} (h : i ≠ j) : get (σ.set i x) j = get σ j := by
  unfold get
  rw [List.getElem?_set_ne h]
theorem get_set {σ : Env} {i j : Nat} {x : Option R} : get (σ.set i x) j = if i = j ∧ i < σ.length then x else get σ j := by
  by_cases h : i = j
  · subst h
    by_cases hl : i < σ.length
    · rw [get_set_same hl, if_pos ⟨rfl, hl⟩]
    · rw [if_neg fun z => hl z.2]
      unfold get
      rw [List.getElem?_eq_none (by simpa using hl), List.getElem?_eq_none (by simpa using hl)]
  · rw [get_set_ne h, if_neg fun z => h z.1]

/-- the heap grew or changed elsewhere -/
theorem RelE.keep {σd : Env} {σ : L2.St} (e : RelE K H σd σ) (k : ∀ a u, H a = some u → H' a = some u) : RelE K H' σd σ :=
  ⟨e.len, fun i r h => let ⟨v, h1, h2⟩ := e.at_ i r h; ⟨v, h1, h2.keep (fun a u q _ => k a u q) fun a u _ q _ => k a u q⟩, e.sep⟩
/-- a slot forgotten -/
theorem RelE.drop {σd : Env} {σ : L2.St} (e : RelE K H σd σ) (i : Nat) : RelE K H (σd.set i none) σ := by
  have g : ∀ j r, get (σd.set i none) j = some r → get σd j = some r := fun j r h => by
    rw [get_set] at h
    split at h
    · cases h
    · exact h
  exact ⟨by rw [List.length_set]; exact e.len, fun j r h => e.at_ j r (g j r h), fun j k r s a n h1 h2 => e.sep j k r s a n (g _ _ h1) (g _ _ h2)⟩
theorem Own.drop {σd : Env} {σ : L2.St} {i : Nat} {a : Addr} (o : Own (σd.set i none) σ a) : Own σd σ a := by
  obtain ⟨j, r, h1, h2, h3⟩ := o
  rw [get_set] at h1
  split at h1
  · cases h1
  · exact ⟨j, r, h1, h2, h3⟩
/-- a slot written with data -/
theorem RelE.setV {σd : Env} {σ : L2.St} (e : RelE K H σd σ) {i : Nat} {d : D} {v : V} (hl : i < σ.length) (h : Rep K H d v) : RelE K H (σd.set i (some (.v d))) (σ.set i (some v)) := by
  refine ⟨by rw [List.length_set, List.length_set]; exact e.len, fun j r q => ?_, fun j k r s a n q1 q2 o1 o2 => ?_⟩
  · rw [get_set] at q
    split at q
    · rename_i z
      obtain ⟨rfl, _⟩ := z
      cases q
      exact ⟨v, List.getElem?_set_self hl, h⟩
    · rename_i z
      have ne : i ≠ j := fun w => z ⟨w, by rw [e.len]; exact hl⟩
      obtain ⟨w, h1, h2⟩ := e.at_ j r q
      exact ⟨w, by rw [List.getElem?_set_ne ne]; exact h1, h2⟩
  · rw [get_set] at q1 q2
    split at q1
    · cases q1; cases o1
    · split at q2
      · cases q2; cases o2
      · rename_i z1 z2
        have n1 : i ≠ j := fun w => z1 ⟨w, by rw [e.len]; exact hl⟩
        have n2 : i ≠ k := fun w => z2 ⟨w, by rw [e.len]; exact hl⟩
        rw [List.getElem?_set_ne n1, List.getElem?_set_ne n2]
        exact e.sep j k r s a n q1 q2 o1 o2
theorem Own.setV {σd : Env} {σ : L2.St} {i : Nat} {d : D} {v : V} {a : Addr} (hl : i < σd.length) (o : Own (σd.set i (some (.v d))) (σ.set i (some v)) a) : Own σd σ a := by
  obtain ⟨j, r, h1, h2, h3⟩ := o
  rw [get_set] at h1
  split at h1
  · cases h1; cases h2
  · rename_i z
    have ne : i ≠ j := fun w => z ⟨w, hl⟩
    rw [List.getElem?_set_ne ne] at h3
    exact ⟨j, r, h1, h2, h3⟩
/-- a slot written with an owned row that no other name owns -/
theorem RelE.setR {σd : Env} {σ : L2.St} (e : RelE K H σd σ) {i : Nat} {r : R} {a : Addr} (hl : i < σ.length) (o : r.own = true) (h : RepR K H r (.ref a)) (n : ∀ j, j ≠ i → ∀ s, get σd j = some s → s.own = true → σ[j]? ≠ some (some (.ref a))) :
    RelE K H (σd.set i (some r)) (σ.set i (some (.ref a))) := by
  refine ⟨by rw [List.length_set, List.length_set]; exact e.len, fun j s q => ?_, fun j k s t b ne q1 q2 o1 o2 => ?_⟩
  · rw [get_set] at q
    split at q
    · rename_i z
      obtain ⟨rfl, _⟩ := z
      cases q
      exact ⟨_, List.getElem?_set_self hl, h⟩
    · rename_i z
      have ne : i ≠ j := fun w => z ⟨w, by rw [e.len]; exact hl⟩
      obtain ⟨w, h1, h2⟩ := e.at_ j s q
      exact ⟨w, by rw [List.getElem?_set_ne ne]; exact h1, h2⟩
  · rw [get_set] at q1 q2
    split at q1
    · rename_i z1
      obtain ⟨rfl, _⟩ := z1
      split at q2
      · rename_i z2
        exact absurd z2.1 ne
      · rw [List.getElem?_set_self hl, List.getElem?_set_ne ne]
        intro x y
        cases x
        exact n k (Ne.symm ne) t q2 o2 y
    · rename_i z1
      have n1 : i ≠ j := fun w => z1 ⟨w, by rw [e.len]; exact hl⟩
      split at q2
      · rename_i z2
        obtain ⟨rfl, _⟩ := z2
        rw [List.getElem?_set_self hl, List.getElem?_set_ne n1]
        intro x y
        cases y
        exact n j (Ne.symm n1) s q1 o1 x
      · rename_i z2
        have n2 : i ≠ k := fun w => z2 ⟨w, by rw [e.len]; exact hl⟩
        rw [List.getElem?_set_ne n1, List.getElem?_set_ne n2]
        exact e.sep j k s t b ne q1 q2 o1 o2
theorem Own.setR {σd : Env} {σ : L2.St} {i : Nat} {r : R} {v : V} {a : Addr} (hl : i < σd.length) (o : Own (σd.set i (some r)) (σ.set i (some v)) a) : Own σd σ a ∨ (r.own = true ∧ v = .ref a) := by
  obtain ⟨j, s, h1, h2, h3⟩ := o
  rw [get_set] at h1
  split at h1
  · rename_i z
    obtain ⟨rfl, _⟩ := z
    cases h1
    refine .inr ⟨h2, ?_⟩
    by_cases hs : i < σ.length
    · rw [List.getElem?_set_self hs] at h3
      cases h3
      rfl
    · rw [List.getElem?_eq_none (by simpa using hs)] at h3
      cases h3
  · rename_i z
    have ne : i ≠ j := fun w => z ⟨w, hl⟩
    rw [List.getElem?_set_ne ne] at h3
    exact .inl ⟨j, s, h1, h2, h3⟩
/-- the row that the i-th name owns is changed -/
theorem RelE.write {σd : Env} {σ : L2.St} (e : RelE K H σd σ) {i : Nat} {r r' : R} {a : Addr} {u : HO} (g : get σd i = some r) (o : r.own = true) (hs : σ[i]? = some (some (.ref a))) (o' : r'.own = true) (n : RepR K (upd H a u) r' (.ref a)) :
    RelE K (upd H a u) (σd.set i (some r')) σ := by
  have ha := e.own ⟨i, r, g, o, hs⟩
  obtain ⟨w, hw, mw⟩ := ha
  have mo : Mono H (upd H a u) := fun b x q f => by
    rw [upd_ne (fun z => by subst z; rw [hw] at q; cases q; exact f.nmut mw)]
    exact q
  refine ⟨by rw [List.length_set]; exact e.len, fun j s q => ?_, fun j k s t b ne q1 q2 o1 o2 => ?_⟩
  · rw [get_set] at q
    split at q
    · rename_i z
      obtain ⟨rfl, _⟩ := z
      cases q
      exact ⟨_, hs, n⟩
    · rename_i z
      have ne : i ≠ j := fun w => z ⟨w, get_lt g⟩
      obtain ⟨v, h1, h2⟩ := e.at_ j s q
      refine ⟨v, h1, h2.keep mo fun b x ev eb os => ?_⟩
      rw [upd_ne (fun z => ?_)]
      · exact eb
      · subst z
        subst ev
        exact e.sep i j r s b ne g q o os hs h1
  · have back : ∀ j s, get (σd.set i (some r')) j = some s → s.own = true → ∃ s', get σd j = some s' ∧ s'.own = true := fun j s q os => by
      rw [get_set] at q
      split at q
      · rename_i z
        obtain ⟨rfl, _⟩ := z
        exact ⟨r, g, o⟩
      · exact ⟨s, q, os⟩
    obtain ⟨s', g1, p1⟩ := back j s q1 o1
    obtain ⟨t', g2, p2⟩ := back k t q2 o2
    exact e.sep j k s' t' b ne g1 g2 p1 p2
theorem Own.write {σd : Env} {σ : L2.St} {i : Nat} {r r' : R} {a : Addr} (g : get σd i = some r) (o : r.own = true) (x : Own (σd.set i (some r')) σ a) : Own σd σ a := by
  obtain ⟨j, s, h1, h2, h3⟩ := x
  rw [get_set] at h1
  split at h1
  · rename_i z
    obtain ⟨rfl, _⟩ := z
    exact ⟨i, r, g, o, h3⟩
  · exact ⟨j, s, h1, h2, h3⟩
/-- .. frozen -/
theorem RelE.freeze {σd : Env} {σ : L2.St} (e : RelE K H σd σ) {i : Nat} {r : R} {a : Addr} {u : HO} {od : Obj} (g : get σd i = some r) (o : r.own = true) (hs : σ[i]? = some (some (.ref a))) (hu : H a = some u) :
    RelE K (upd H a (.frz od u)) (σd.set i (some (.v r.frz))) σ ∧ Rep K (upd H a (.frz od u)) r.frz (.ref a) ∧ Ext (Own σd σ) (Own (σd.set i (some (.v r.frz))) σ) H (upd H a (.frz od u)) := by
  obtain ⟨w, hw, mw⟩ := e.own ⟨i, r, g, o, hs⟩
  rw [hu] at hw
  cases hw
  have mo : Mono H (upd H a (.frz od u)) := fun b x q f => by
    rw [upd_ne (fun z => by subst z; rw [hu] at q; cases q; exact f.nmut mw)]
    exact q
  obtain ⟨v, h1, h2⟩ := e.at_ i r g
  rw [hs] at h1
  cases h1
  have fr := h2.frozen o hu mo upd_same
  have back : ∀ j s, get (σd.set i (some (.v r.frz))) j = some s → s.own = true → j ≠ i ∧ get σd j = some s := fun j s q os => by
    rw [get_set] at q
    split at q
    · cases q; cases os
    · rename_i z
      exact ⟨fun w => z ⟨w.symm, get_lt g⟩, q⟩
  refine ⟨⟨by rw [List.length_set]; exact e.len, fun j s q => ?_, fun j k s t b ne q1 q2 o1 o2 => ?_⟩, fr, fun b x q n => ?_, fun b x => ?_⟩
  · rw [get_set] at q
    split at q
    · rename_i z
      obtain ⟨rfl, _⟩ := z
      cases q
      exact ⟨_, hs, fr⟩
    · rename_i z
      have ne : i ≠ j := fun w => z ⟨w, get_lt g⟩
      obtain ⟨v, h1, h2⟩ := e.at_ j s q
      refine ⟨v, h1, h2.keep mo fun b x ev eb os => ?_⟩
      rw [upd_ne (fun z => ?_)]
      · exact eb
      · subst z
        subst ev
        exact e.sep i j r s b ne g q o os hs h1
  · exact e.sep j k s t b ne (back _ _ q1 o1).2 (back _ _ q2 o2).2 o1 o2
  · rw [upd_ne (fun z => by subst z; exact n ⟨i, r, g, o, hs⟩)]
    exact q
  · obtain ⟨j, s, g1, o1, h3⟩ := x
    exact .inl ⟨j, s, (back j s g1 o1).2, o1, h3⟩
end
end Pv
end
section
/-! PvC: what an expression of the language does, as a reading of HandS. -/
namespace Pv
open PySem PySem.Spec PyProof.Rows L2

section
variable {X : Cx} {e : Expr} {t t' : TE}
theorem pe_weak (h : PE X e t) (w : ∀ σ H Q, t' σ H Q → t σ H Q) : PE X e t' := ⟨fun pins s σ H Q I q => h.run pins s σ H Q I (w σ H Q q)⟩
theorem pt_weak {t t' : TT} (h : PT X e t) (w : ∀ σ H Q, t' σ H Q → t σ H Q) : PT X e t' := ⟨fun pins s σ H Q I q => h.run pins s σ H Q I (w σ H Q q)⟩
theorem pw_weak {t t' : TT} (h : PW X e t) (w : ∀ σ H Q, t' σ H Q → t σ H Q) : PW X e t' := ⟨fun wh pins s σ H Q I q => h.run wh pins s σ H Q I (w σ H Q q)⟩
theorem pa_weak {es : List Expr} {t t' : TA} (h : PA X es t) (w : ∀ σ H Q, t' σ H Q → t σ H Q) : PA X es t' := ⟨fun pos pins s σ H Q I q => h.run pos pins s σ H Q I (w σ H Q q)⟩
theorem ps_weak {st : Stmt} {t t' : TS} (h : PS X st t) (w : ∀ D σ H, t' D σ H → t D σ H) : PS X st t' := ⟨fun pins s σ H D I q => h.run pins s σ H D I (w D σ H q)⟩
theorem pss_weak {st : List Stmt} {t t' : TS} (h : PSs X st t) (w : ∀ D σ H, t' D σ H → t D σ H) : PSs X st t' := ⟨fun pins s σ H D I q => h.run pins s σ H D I (w D σ H q)⟩
/-- a row of one's own is frozen behind the expression, if one wants -/
def tFrz (t : TE) : TE := fun σ H Q => t σ H fun v H' => Q v H' ∨ ∃ a u, v = .ref a ∧ H' a = some u ∧ Mut (some u) ∧ ∀ od, Q v (upd H' a (.frz od u))
theorem pe_frz (h : PE X e t) : PE X e (tFrz t) := by
  refine ⟨fun pins s σ H Q I q => thn (h.run pins s σ H _ I q) fun v s1 r => ?_⟩
  obtain ⟨x, H1, I1, rx, z⟩ := r
  rcases z with z | ⟨a, u, e, h1, mu, z⟩
  · exact ⟨x, H1, I1, rx, z⟩
  · obtain ⟨od, I2⟩ := I1.lock h1 mu
    exact ⟨x, _, I2, rx, z od⟩
end

section
variable {K : PySem.W.Frag} {H H' : Hp}
/-- a row that no name owns is frozen -/
theorem RelE.frzOut {σd : Env} {σ : L2.St} (e : RelE K H σd σ) {a : Addr} {u : HO} {od : Obj} (hu : H a = some u) (mu : Mut (some u)) (n : ¬ Own σd σ a) : RelE K (upd H a (.frz od u)) σd σ := by
  have mo : Mono H (upd H a (.frz od u)) := fun b x q f => by
    rw [upd_ne (fun z => by subst z; rw [hu] at q; cases q; exact f.nmut mu)]
    exact q
  refine ⟨e.len, fun j s q => ?_, e.sep⟩
  obtain ⟨v, h1, h2⟩ := e.at_ j s q
  refine ⟨v, h1, h2.keep mo fun b x ev eb os => ?_⟩
  rw [upd_ne (fun z => ?_)]
  · exact eb
  · subst z
    subst ev
    exact n ⟨j, s, q, os, h1⟩

/-- what is wanted behind an expression that gives r -/
def PostR (K : PySem.W.Frag) (σ : L2.St) (σd : Env) (H : Hp) (o : Out R) (Q : VK) : Prop := match o with
  | .ok r σ1 => ∀ v H', RelE K H' σ1 σ → Ext (Own σd σ) (fun a => Own σ1 σ a ∨ (r.own = true ∧ v = .ref a)) H H' → RepR K H' r v → (∀ a, r.own = true → v = .ref a → ¬ Own σ1 σ a) → Q v H'
  | .no => False
def PostD (K : PySem.W.Frag) (σ : L2.St) (σd : Env) (H : Hp) (o : Out D) (Q : VK) : Prop := match o with
  | .ok d σ1 => ∀ v H', RelE K H' σ1 σ → Ext (Own σd σ) (Own σ1 σ) H H' → Rep K H' d v → Q v H'
  | .no => False
def Pend (K : PySem.W.Frag) (H : Hp) (σ : L2.St) (p : P) (v : V) : Prop := match p with
  | .d d => Rep K H d v
  | .s i _ => σ[i]? = some (some v)
def Pends (K : PySem.W.Frag) (H : Hp) (σ : L2.St) : List P → List V → Prop
  | [], vs => vs = []
  | p :: ps, vs => ∃ v r, vs = v :: r ∧ Pend K H σ p v ∧ Pends K H σ ps r
def PostP (K : PySem.W.Frag) (σ : L2.St) (σd : Env) (H : Hp) (o : Out P) (Q : VK) : Prop := match o with
  | .ok p σ1 => ∀ v H', RelE K H' σ1 σ → Ext (Own σd σ) (Own σ1 σ) H H' → Pend K H' σ p v → (∃ d, fetch σ1 p = some d ∧ RepQ K H' d v) → Q v H'
  | .no => False
def PostPs (K : PySem.W.Frag) (σ : L2.St) (σd : Env) (H : Hp) (o : Out (List P)) (Q : List V → Hp → Prop) : Prop := match o with
  | .ok ps σ1 => ∀ vs H', RelE K H' σ1 σ → Ext (Own σd σ) (Own σ1 σ) H H' → Pends K H' σ ps vs → Q vs H'
  | .no => False
def PostDs (K : PySem.W.Frag) (σ : L2.St) (σd : Env) (H : Hp) (o : Out (List D)) (Q : List V → Hp → Prop) : Prop := match o with
  | .ok ds σ1 => ∀ vs H', RelE K H' σ1 σ → Ext (Own σd σ) (Own σ1 σ) H H' → Reps K H' ds vs → Q vs H'
  | .no => False
def PostB (K : PySem.W.Frag) (σ : L2.St) (σd : Env) (H : Hp) (o : Out Bool) (Q : Bool → Hp → Prop) : Prop := match o with
  | .ok b σ1 => ∀ H', RelE K H' σ1 σ → Ext (Own σd σ) (Own σ1 σ) H H' → Q b H'
  | .no => False
/-- the readings -/
def tR (K : PySem.W.Frag) (f : Env → Out R) : TE := fun σ H Q => ∃ σd, RelE K H σd σ ∧ PostR K σ σd H (f σd) Q
def tD (K : PySem.W.Frag) (f : Env → Out D) : TE := fun σ H Q => ∃ σd, RelE K H σd σ ∧ PostD K σ σd H (f σd) Q
def tP (K : PySem.W.Frag) (f : Env → Out P) : TE := fun σ H Q => ∃ σd, RelE K H σd σ ∧ PostP K σ σd H (f σd) Q
def tPs (K : PySem.W.Frag) (f : Env → Out (List P)) : TA := fun σ H Q => ∃ σd, RelE K H σd σ ∧ PostPs K σ σd H (f σd) Q
def tDs (K : PySem.W.Frag) (f : Env → Out (List D)) : TA := fun σ H Q => ∃ σd, RelE K H σd σ ∧ PostDs K σ σd H (f σd) Q
def tB' (K : PySem.W.Frag) (f : Env → Out Bool) : TT := fun σ H Q => ∃ σd, RelE K H σd σ ∧ PostB K σ σd H (f σd) Q

def evP1 (C : Ctx) (e : E) (σ : Env) : Out P := match e with
  | .v i => match get σ i with
    | some r => .ok (.s i (kind r.frz)) σ
    | none => .no
  | e => (ev C e σ).bind fun r σ => .ok (.d r.frz) σ
def evD1 (C : Ctx) (e : E) (σ : Env) : Out D := (ev C e σ).bind fun r σ => .ok r.frz σ
theorem evPs_cons (C : Ctx) (e : E) (es : Es) (σ : Env) : evPs C (.cons e es) σ = (evP1 C e σ).bind fun p σ => (evPs C es σ).bind fun ps σ => .ok (p :: ps) σ := by
  cases e <;> simp only [evPs, evP1]
  case v i => (generalize get σ i = o; cases o <;> rfl)
  all_goals (generalize ev C _ σ = o; cases o <;> rfl)
theorem evDs_cons (C : Ctx) (e : E) (es : Es) (σ : Env) : evDs C (.cons e es) σ = (evD1 C e σ).bind fun d σ => (evDs C es σ).bind fun ds σ => .ok (d :: ds) σ := by
  simp only [evDs, evD1]
  generalize ev C e σ = o
  cases o <;> rfl
end

section
variable {X : Cx} {C : Ctx} {e : Expr}
/-- data out of an owned row -/
theorem pe_D {f : Env → Out R} (h : PE X e (tR X.K f)) : PE X e (tD X.K fun σ => (f σ).bind fun r σ => .ok r.frz σ) := by
  refine pe_weak (pe_frz h) fun σ H Q q => ?_
  obtain ⟨σd, rel, q⟩ := q
  refine ⟨σd, rel, ?_⟩
  dsimp only at q
  cases ef : f σd with
  | no => rw [ef] at q; exact q
  | ok r σ1 =>
    rw [ef] at q
    intro v H' rel' x rv n
    by_cases o : r.own = true
    · obtain ⟨a, u, rfl, hu, mu⟩ := rv.at o
      refine .inr ⟨a, u, rfl, hu, mu, fun od => ?_⟩
      have na := n a o rfl
      have mo : Mono H' (upd H' a (.frz od u)) := fun b y q f => by
        rw [upd_ne (fun z => by subst z; rw [hu] at q; cases q; exact f.nmut mu)]
        exact q
      refine q (.ref a) _ (rel'.frzOut hu mu na) ⟨fun b y hb nb => ?_, fun b hb => x.2 b (.inl hb)⟩ (rv.frozen o hu mo upd_same)
      have hb' := x.1 b y hb nb
      rw [upd_ne (fun z => ?_)]
      · exact hb'
      · subst z
        rcases x.2 b (.inr ⟨o, rfl⟩) with w | w
        · exact nb w
        · rw [w] at hb; cases hb
    · refine .inl (q v H' rel' ⟨x.1, fun a h => x.2 a (.inl h)⟩ ?_)
      cases r with
      | v d => exact rv
      | l xs => exact absurd rfl o
      | m l => exact absurd rfl o
theorem pe_P {x : E} (h : PE X e (tR X.K (ev C x))) (nv : ∀ i, x ≠ .v i) : PE X e (tP X.K (evP1 C x)) := by
  refine pe_weak (pe_D h) fun σ H Q q => ?_
  obtain ⟨σd, rel, q⟩ := q
  refine ⟨σd, rel, ?_⟩
  have e1 : evP1 C x σd = (ev C x σd).bind fun r σ => .ok (.d r.frz) σ := by
    cases x <;> first | rfl | exact absurd rfl (nv _)
  rw [e1] at q
  dsimp only
  cases ef : ev C x σd with
  | no => rw [ef] at q; exact q
  | ok r σ1 =>
    rw [ef] at q
    exact fun v H' rel' x' rv => q v H' rel' x' rv ⟨_, rfl, Rep.q rv⟩

/-- the readings of rows, item by item -/
theorem tPs_cons {K : PySem.W.Frag} {x : E} {es : Es} {σ : L2.St} {H : Hp} {Q : List V → Hp → Prop} (q : tPs K (evPs C (.cons x es)) σ H Q) :
    tP K (evP1 C x) σ H fun v H1 => tPs K (evPs C es) σ H1 fun vs H2 => Q (v :: vs) H2 := by
  obtain ⟨σd, rel, q⟩ := q
  rw [evPs_cons] at q
  refine ⟨σd, rel, ?_⟩
  cases e1 : evP1 C x σd with
  | no => rw [e1] at q; exact q
  | ok p σ1 =>
    rw [e1] at q
    intro v H1 rel1 x1 rv _
    refine ⟨σ1, rel1, ?_⟩
    simp only [Out.bind] at q
    cases e2 : evPs C es σ1 with
    | no => rw [e2] at q; exact q
    | ok ps σ2 =>
      rw [e2] at q
      intro vs H2 rel2 x2 rvs
      refine q (v :: vs) H2 rel2 (x1.trans x2) ⟨v, vs, rfl, ?_, rvs⟩
      cases p with
      | d d => exact Rep.mono (rel1.mono x2) d v rv
      | s i k => exact rv
theorem tPs_nil {K : PySem.W.Frag} {σ : L2.St} {H : Hp} {Q : List V → Hp → Prop} (q : tPs K (evPs C .nil) σ H Q) : Q [] H := by
  obtain ⟨σd, rel, q⟩ := q
  exact q [] H rel (Ext.refl _ _) rfl
theorem tDs_cons {K : PySem.W.Frag} {x : E} {es : Es} {σ : L2.St} {H : Hp} {Q : List V → Hp → Prop} (q : tDs K (evDs C (.cons x es)) σ H Q) :
    tD K (evD1 C x) σ H fun v H1 => tDs K (evDs C es) σ H1 fun vs H2 => Q (v :: vs) H2 := by
  obtain ⟨σd, rel, q⟩ := q
  rw [evDs_cons] at q
  refine ⟨σd, rel, ?_⟩
  cases e1 : evD1 C x σd with
  | no => rw [e1] at q; exact q
  | ok p σ1 =>
    rw [e1] at q
    intro v H1 rel1 x1 rv
    refine ⟨σ1, rel1, ?_⟩
    simp only [Out.bind] at q
    cases e2 : evDs C es σ1 with
    | no => rw [e2] at q; exact q
    | ok ps σ2 =>
      rw [e2] at q
      intro vs H2 rel2 x2 rvs
      exact q (v :: vs) H2 rel2 (x1.trans x2) ⟨v, vs, rfl, Rep.mono (rel1.mono x2) p v rv, rvs⟩
theorem tDs_nil {K : PySem.W.Frag} {σ : L2.St} {H : Hp} {Q : List V → Hp → Prop} (q : tDs K (evDs C .nil) σ H Q) : Q [] H := by
  obtain ⟨σd, rel, q⟩ := q
  exact q [] H rel (Ext.refl _ _) rfl

/-- what an operation is given, and what is wanted of it -/
def RepQs (K : PySem.W.Frag) (H : Hp) : List D → List V → Prop
  | [], vs => vs = []
  | d :: ds, vs => ∃ v r, vs = v :: r ∧ RepQ K H d v ∧ RepQs K H ds r
def OpW (K : PySem.W.Frag) (o : Op) (vs : List V) (H : Hp) (Q : VK) : Prop :=
  ∃ ds r, RepQs K H ds vs ∧ opD o ds = some r ∧ ∀ v H', (∀ a u, H a = some u → H' a = some u) → (r.own = true → ∃ a, v = .ref a ∧ H a = none) → RepR K H' r v → Q v H'
theorem Reps.qs {K : PySem.W.Frag} {H : Hp} : ∀ {ds : List D} {vs : List V}, Reps K H ds vs → RepQs K H ds vs
  | [], vs, h => h
  | d :: ds, vs, h => by
    obtain ⟨v, r, e, p, q⟩ := h
    exact ⟨v, r, e, p.q, Reps.qs q⟩
theorem Pend.q {K : PySem.W.Frag} {H : Hp} {σd : Env} {σ : L2.St} {p : P} {v : V} {d : D} (rel : RelE K H σd σ) (h : Pend K H σ p v) (f : fetch σd p = some d) : RepQ K H d v := by
  cases p with
  | d x =>
    cases f
    exact Rep.q h
  | s i k =>
    cases e : get σd i with
    | none => simp [fetch, e] at f
    | some r =>
      simp [fetch, e] at f
      obtain ⟨_, f⟩ := f
      subst f
      obtain ⟨w, h1, h2⟩ := rel.at_ i r e
      rw [show σ[i]? = some (some v) from h] at h1
      cases h1
      exact ⟨r, rfl, h2⟩
theorem Pends.qs {K : PySem.W.Frag} {H : Hp} {σd : Env} {σ : L2.St} (rel : RelE K H σd σ) : ∀ {ps : List P} {vs : List V} {ds : List D}, Pends K H σ ps vs → fetchs σd ps = some ds → RepQs K H ds vs
  | [], vs, ds, h, f => by
    cases f
    exact h
  | p :: ps, vs, ds, h, f => by
    obtain ⟨v, r, e, p1, q⟩ := h
    simp only [fetchs] at f
    cases e1 : fetch σd p with
    | none => rw [e1] at f; cases f
    | some d =>
      rw [e1] at f
      cases e2 : fetchs σd ps with
      | none => simp [e2] at f
      | some ds' =>
        simp [e2] at f
        subst f
        exact ⟨v, r, e, p1.q rel e1, Pends.qs rel q e2⟩
theorem own_new {K : PySem.W.Frag} {σd : Env} {σ : L2.St} {H : Hp} (rel : RelE K H σd σ) {a : Addr} (n : H a = none) : ¬ Own σd σ a := fun o => by
  obtain ⟨u, e, _⟩ := rel.own o
  rw [n] at e
  cases e
theorem op_post {K : PySem.W.Frag} {o : Op} {es : Es} {σ : L2.St} {H : Hp} {Q : VK} (hk : o.keeps = false) (q : tR K (ev C (.op o es)) σ H Q) : tPs K (evPs C es) σ H fun vs H1 => OpW K o vs H1 Q := by
  obtain ⟨σd, rel, q⟩ := q
  refine ⟨σd, rel, ?_⟩
  simp only [ev, hk, Bool.false_eq_true, if_false] at q
  cases e1 : evPs C es σd with
  | no => rw [e1] at q; exact q
  | ok ps σ1 =>
    rw [e1] at q
    intro vs H1 rel1 x1 ps1
    simp only [Out.bind] at q
    cases e2 : fetchs σ1 ps with
    | none => rw [e2] at q; exact q.elim
    | some ds =>
      rw [e2] at q
      simp only [Option.bind_some] at q
      cases e3 : opD o ds with
      | none => rw [e3] at q; exact q.elim
      | some r =>
        rw [e3] at q
        refine ⟨ds, r, Pends.qs rel1 ps1 e2, e3, fun v H2 k nw rv => ?_⟩
        refine q v H2 (rel1.keep k) ⟨fun a u h n => k a u (x1.1 a u h n), fun a h => ?_⟩ rv fun a ho ev => ?_
        · rcases h with h | ⟨ho, ev⟩
          · exact x1.2 a h
          · obtain ⟨b, eb, nb⟩ := nw ho
            rw [ev] at eb
            cases eb
            cases z : H a with
            | none => exact .inr rfl
            | some u =>
              by_cases w : Own σd σ a
              · exact .inl w
              · rw [x1.1 a u z w] at nb; cases nb
        · obtain ⟨b, eb, nb⟩ := nw ho
          rw [ev] at eb
          cases eb
          exact own_new rel1 nb
/-- operands one by one, each with its kind when it is read -/
def tPsK (K : PySem.W.Frag) (C : Ctx) : Es → List Nat → L2.St → Hp → (List V → Hp → Prop) → Prop
  | .nil, _, _, H, Q => Q [] H
  | .cons e es, ks, σ, H, Q => tP K (evP1 C e) σ H fun v H1 => (∃ d, RepQ K H1 d v ∧ kind d = ks.headD 0) ∧ tPsK K C es ks.tail σ H1 fun vs H2 => Q (v :: vs) H2
theorem kind_same {σ1 σ2 : Env} {p : P} {d d' : D} (h1 : fetch σ1 p = some d) (h2 : fetch σ2 p = some d') : kind d = kind d' := by
  cases p with
  | d y =>
    cases h1
    cases h2
    rfl
  | s i k =>
    simp only [fetch] at h1 h2
    cases g1 : get σ1 i with
    | none => simp [g1] at h1
    | some r1 =>
      cases g2 : get σ2 i with
      | none => simp [g2] at h2
      | some r2 =>
        simp [g1] at h1
        simp [g2] at h2
        obtain ⟨k1, rfl⟩ := h1
        obtain ⟨k2, rfl⟩ := h2
        rw [k1, k2]
theorem psK {K : PySem.W.Frag} {σ : L2.St} {σ2 : Env} : ∀ {es : Es} {σd : Env} {H : Hp} {ps : List P} {ds : List D} {Q : List V → Hp → Prop}, RelE K H σd σ → evPs C es σd = .ok ps σ2 → fetchs σ2 ps = some ds →
    (∀ vs H', RelE K H' σ2 σ → Ext (Own σd σ) (Own σ2 σ) H H' → Pends K H' σ ps vs → Q vs H') → tPsK K C es (ds.map kind) σ H Q
  | .nil, σd, H, ps, ds, Q, rel, e, f, q => by
    simp only [evPs, Out.ok.injEq] at e
    obtain ⟨rfl, rfl⟩ := e
    exact q [] H rel (Ext.refl _ _) rfl
  | .cons x es, σd, H, ps, ds, Q, rel, e, f, q => by
    rw [evPs_cons] at e
    refine ⟨σd, rel, ?_⟩
    cases e1 : evP1 C x σd with
    | no => rw [e1] at e; cases e
    | ok p σ1 =>
      rw [e1] at e
      simp only [Out.bind] at e
      cases e2 : evPs C es σ1 with
      | no => rw [e2] at e; cases e
      | ok ps' σ2' =>
        rw [e2] at e
        simp only [Out.ok.injEq] at e
        obtain ⟨rfl, rfl⟩ := e
        intro v H1 rel1 x1 rv fq
        obtain ⟨d, fd, rd⟩ := fq
        simp only [fetchs] at f
        cases e5 : fetch σ2' p with
        | none => rw [e5] at f; cases f
        | some d' =>
          rw [e5] at f
          cases e6 : fetchs σ2' ps' with
          | none => simp [e6] at f
          | some ds' =>
            simp [e6] at f
            subst f
            refine ⟨⟨d, rd, ?_⟩, ?_⟩
            · exact kind_same fd e5
            · refine psK rel1 e2 e6 fun vs H2 rel2 x2 pv => ?_
              refine q (v :: vs) H2 rel2 (x1.trans x2) ⟨v, vs, rfl, ?_, pv⟩
              cases p with
              | d y => exact Rep.mono (rel1.mono x2) y v rv
              | s i k => exact rv
theorem op_postK {K : PySem.W.Frag} {o : Op} {es : Es} {σ : L2.St} {H : Hp} {Q : VK} (hk : o.keeps = false) (q : tR K (ev C (.op o es)) σ H Q) :
    ∃ ds r, opD o ds = some r ∧ tPsK K C es (ds.map kind) σ H fun vs H1 => OpW K o vs H1 Q := by
  obtain ⟨σd, rel, q⟩ := q
  simp only [ev, hk, Bool.false_eq_true, if_false] at q
  cases e1 : evPs C es σd with
  | no => rw [e1] at q; exact q.elim
  | ok ps σ1 =>
    rw [e1] at q
    simp only [Out.bind] at q
    cases e2 : fetchs σ1 ps with
    | none => rw [e2] at q; exact q.elim
    | some ds =>
      rw [e2] at q
      simp only [Option.bind_some] at q
      cases e3 : opD o ds with
      | none => rw [e3] at q; exact q.elim
      | some r =>
        rw [e3] at q
        refine ⟨ds, r, e3, psK rel e1 e2 fun vs H1 rel1 x1 ps1 => ?_⟩
        refine ⟨ds, r, Pends.qs rel1 ps1 e2, e3, fun v H2 k nw rv => ?_⟩
        refine q v H2 (rel1.keep k) ⟨fun a u h n => k a u (x1.1 a u h n), fun a h => ?_⟩ rv fun a ho ev => ?_
        · rcases h with h | ⟨ho, ev⟩
          · exact x1.2 a h
          · obtain ⟨b, eb, nb⟩ := nw ho
            rw [ev] at eb
            cases eb
            cases z : H a with
            | none => exact .inr rfl
            | some u =>
              by_cases w : Own σd σ a
              · exact .inl w
              · rw [x1.1 a u z w] at nb; cases nb
        · obtain ⟨b, eb, nb⟩ := nw ho
          rw [ev] at eb
          cases eb
          exact own_new rel1 nb
theorem tP_mono {K : PySem.W.Frag} {f : Env → Out P} {σ : L2.St} {H : Hp} {Q Q' : VK} (q : tP K f σ H Q) (w : ∀ v H, Q v H → Q' v H) : tP K f σ H Q' := by
  obtain ⟨σd, rel, q⟩ := q
  refine ⟨σd, rel, ?_⟩
  cases e : f σd with
  | no => rw [e] at q; exact q
  | ok p σ1 => rw [e] at q; exact fun v H' r x p d => w v H' (q v H' r x p d)
theorem tD_mono {K : PySem.W.Frag} {f : Env → Out D} {σ : L2.St} {H : Hp} {Q Q' : VK} (q : tD K f σ H Q) (w : ∀ v H, Q v H → Q' v H) : tD K f σ H Q' := by
  obtain ⟨σd, rel, q⟩ := q
  refine ⟨σd, rel, ?_⟩
  cases e : f σd with
  | no => rw [e] at q; exact q
  | ok p σ1 => rw [e] at q; exact fun v H' r x p => w v H' (q v H' r x p)
theorem tPs_mono {K : PySem.W.Frag} {f : Env → Out (List P)} {σ : L2.St} {H : Hp} {Q Q' : List V → Hp → Prop} (q : tPs K f σ H Q) (w : ∀ v H, Q v H → Q' v H) : tPs K f σ H Q' := by
  obtain ⟨σd, rel, q⟩ := q
  refine ⟨σd, rel, ?_⟩
  cases e : f σd with
  | no => rw [e] at q; exact q
  | ok p σ1 => rw [e] at q; exact fun v H' r x p => w v H' (q v H' r x p)
theorem tDs_mono {K : PySem.W.Frag} {f : Env → Out (List D)} {σ : L2.St} {H : Hp} {Q Q' : List V → Hp → Prop} (q : tDs K f σ H Q) (w : ∀ v H, Q v H → Q' v H) : tDs K f σ H Q' := by
  obtain ⟨σd, rel, q⟩ := q
  refine ⟨σd, rel, ?_⟩
  cases e : f σd with
  | no => rw [e] at q; exact q
  | ok p σ1 => rw [e] at q; exact fun v H' r x p => w v H' (q v H' r x p)
/-- with an empty reading for nothing -/
theorem tPsK_mono {K : PySem.W.Frag} : ∀ {es : Es} {ks : List Nat} {σ : L2.St} {H : Hp} {Q Q' : List V → Hp → Prop}, tPsK K C es ks σ H Q → (∀ v H, Q v H → Q' v H) → tPsK K C es ks σ H Q'
  | .nil, _, _, _, _, _, q, w => w _ _ q
  | .cons e es, ks, σ, H, Q, Q', q, w => tP_mono q fun v H1 ⟨a, b⟩ => ⟨a, tPsK_mono b fun vs H2 => w (v :: vs) H2⟩
theorem op_postD {K : PySem.W.Frag} {o : Op} {es : Es} {σ : L2.St} {H : Hp} {Q : VK} (hk : o.keeps = true) (q : tR K (ev C (.op o es)) σ H Q) :
    tDs K (evDs C es) σ H fun vs H1 => ∃ ds r, Reps K H1 ds vs ∧ opD o ds = some r ∧ ∀ v H', (∀ a u, H1 a = some u → H' a = some u) → (r.own = true → ∃ a, v = .ref a ∧ H1 a = none) → RepR K H' r v → Q v H' := by
  obtain ⟨σd, rel, q⟩ := q
  refine ⟨σd, rel, ?_⟩
  simp only [ev, hk, if_true] at q
  cases e1 : evDs C es σd with
  | no => rw [e1] at q; exact q
  | ok ds σ1 =>
    rw [e1] at q
    intro vs H1 rel1 x1 ps1
    simp only [Out.bind] at q
    cases e3 : opD o ds with
    | none => rw [e3] at q; exact q.elim
    | some r =>
      rw [e3] at q
      refine ⟨ds, r, ps1, e3, fun v H2 k nw rv => ?_⟩
      refine q v H2 (rel1.keep k) ⟨fun a u h n => k a u (x1.1 a u h n), fun a h => ?_⟩ rv fun a ho ev => ?_
      · rcases h with h | ⟨ho, ev⟩
        · exact x1.2 a h
        · obtain ⟨b, eb, nb⟩ := nw ho
          rw [ev] at eb
          cases eb
          cases z : H a with
          | none => exact .inr rfl
          | some u =>
            by_cases w : Own σd σ a
            · exact .inl w
            · rw [x1.1 a u z w] at nb; cases nb
      · obtain ⟨b, eb, nb⟩ := nw ho
        rw [ev] at eb
        cases eb
        exact own_new rel1 nb

/-- an expression of the text stands for e -/
structure Sn (X : Cx) (C : Ctx) (a : Expr) (e : E) : Prop where
  r : PE X a (tR X.K (ev C e))
  p : PE X a (tP X.K (evP1 C e))
theorem Sn.d {a : Expr} {e : E} (h : Sn X C a e) : PE X a (tD X.K (evD1 C e)) := pe_D h.r
theorem Sn.of {a : Expr} {e : E} (h : PE X a (tR X.K (ev C e))) (nv : ∀ i, e ≠ .v i) : Sn X C a e := ⟨h, pe_P h nv⟩

/-- arguments -/
structure SnA (X : Cx) (C : Ctx) (as : List Expr) (es : Es) : Prop where
  p : PA X as (tPs X.K (evPs C es))
  d : PA X as (tDs X.K (evDs C es))
theorem SnA.nil : SnA X C [] .nil := ⟨pa_weak pa_nil fun σ H Q q => tPs_nil q, pa_weak pa_nil fun σ H Q q => tDs_nil q⟩
theorem SnA.cons {a : Expr} {as : List Expr} {e : E} {es : Es} (h : Sn X C a e) (t : SnA X C as es) (hs : starEach (a :: as) X.env = (false, eval a X.env) :: starEach as X.env := by rfl) : SnA X C (a :: as) (.cons e es) :=
  ⟨pa_weak (pa_cons h.p t.p hs) fun σ H Q q => tPs_cons q, pa_weak (pa_cons h.d t.d hs) fun σ H Q q => tDs_cons q⟩

/-! ### names, constants -/
theorem sn_c {a : Expr} {d : D} {v : V} (h : PE X a (tC v)) (r : ∀ H, Rep X.K H d v) : Sn X C a (.c d) := by
  refine .of (pe_weak h fun σ H Q q => ?_) fun i => by simp
  obtain ⟨σd, rel, q⟩ := q
  exact q v H rel ⟨fun _ _ h _ => h, fun b h => h.elim .inl fun z => (by cases z.1)⟩ (r H) fun _ h => by cases h
theorem sn_v {a : Expr} {i : Nat} (h : PE X a (tVar i)) : Sn X C a (.v i) := by
  refine ⟨pe_weak (pe_frz h) fun σ H Q q => ?_, pe_weak h fun σ H Q q => ?_⟩
  · obtain ⟨σd, rel, q⟩ := q
    simp only [ev, frzSlot] at q
    cases g : get σd i with
    | none => rw [g] at q; exact q.elim
    | some r =>
      rw [g] at q
      obtain ⟨v, hv, rv⟩ := rel.at_ i r g
      refine ⟨v, hv, ?_⟩
      cases r with
      | v d => exact .inl (q v H rel ⟨fun _ _ h _ => h, fun b h => h.elim .inl fun z => (by cases z.1)⟩ rv fun _ h => by cases h)
      | l xs =>
        obtain ⟨a, u, rfl, hu, mu⟩ := rv.at rfl
        refine .inr ⟨a, u, rfl, hu, mu, fun od => ?_⟩
        obtain ⟨f1, f2, f3⟩ := rel.freeze (od := od) g rfl hv hu
        exact q _ _ f1 ⟨f3.1, fun b h => h.elim (f3.2 b) fun z => (by cases z.1)⟩ f2 fun _ h => by cases h
      | m l =>
        obtain ⟨a, u, rfl, hu, mu⟩ := rv.at rfl
        refine .inr ⟨a, u, rfl, hu, mu, fun od => ?_⟩
        obtain ⟨f1, f2, f3⟩ := rel.freeze (od := od) g rfl hv hu
        exact q _ _ f1 ⟨f3.1, fun b h => h.elim (f3.2 b) fun z => (by cases z.1)⟩ f2 fun _ h => by cases h
  · obtain ⟨σd, rel, q⟩ := q
    simp only [evP1] at q
    cases g : get σd i with
    | none => rw [g] at q; exact q.elim
    | some r =>
      rw [g] at q
      obtain ⟨v, hv, rv⟩ := rel.at_ i r g
      exact ⟨v, hv, q v H rel (Ext.refl _ _) hv ⟨r.frz, by simp [fetch, g], r, rfl, rv⟩⟩
end
end Pv
end
section
/-! PvD: the operations of the language over HandS' rules. -/
namespace Pv
open PySem PySem.Spec PyProof.Rows L2

theorem lim_eq : lim = sizeLine := by rw [sizeLine_eq]; rfl
theorem small_lt {n : Nat} (h : small n = true) : n < sizeLine := by rw [← lim_eq]; exact of_decide_eq_true h

section
variable {K : PySem.W.Frag} {H : Hp}
theorem RepQ.non {v : V} (h : RepQ K H .non v) : v = .non := by
  obtain ⟨r, e, q⟩ := h
  cases r <;> cases e
  exact q
theorem RepQ.bl {b : Bool} {v : V} (h : RepQ K H (.bl b) v) : v = .bl b := by
  obtain ⟨r, e, q⟩ := h
  cases r <;> cases e
  exact q
theorem RepQ.int {i : Int} {v : V} (h : RepQ K H (.int i) v) : v = .int i := by
  obtain ⟨r, e, q⟩ := h
  cases r <;> cases e
  exact q
theorem RepQ.str {x : List Nat} {v : V} (h : RepQ K H (.str x) v) : v = .str (st x) := by
  obtain ⟨r, e, q⟩ := h
  cases r <;> cases e
  exact q
theorem RepQ.tup {l : List D} {v : V} (h : RepQ K H (.tup l) v) : ∃ a vs, v = .ref a ∧ PlT K H a vs ∧ Reps K H l vs := by
  obtain ⟨r, e, q⟩ := h
  cases r <;> cases e
  exact q
theorem RepQ.lst {l : List D} {v : V} (h : RepQ K H (.lst l) v) : ∃ a vs, v = .ref a ∧ Rd H a (.lst vs) ∧ Reps K H l vs := by
  obtain ⟨r, e, q⟩ := h
  cases r <;> cases e
  · obtain ⟨a, vs, e, z, t⟩ := q
    exact ⟨a, vs, e, z.rd, t⟩
  · obtain ⟨a, vs, e, z, t⟩ := q
    exact ⟨a, vs, e, .inl z, t⟩
theorem RepQ.dic {l : List (D × D)} {v : V} (h : RepQ K H (.dic l) v) : ∃ a u kvs, v = .ref a ∧ Rd H a u ∧ DictO u kvs ∧ RepP K H l kvs := by
  obtain ⟨r, e, q⟩ := h
  cases r <;> cases e
  · obtain ⟨a, o, u, kvs, e, z, t, s⟩ := q
    exact ⟨a, u, kvs, e, .inr ⟨o, z⟩, t, s⟩
  · obtain ⟨a, u, kvs, e, z, t, s⟩ := q
    exact ⟨a, u, kvs, e, .inl z, t, s⟩
theorem qs1 {ds : List D} {x : V} (h : RepQs K H ds [x]) : ∃ d, ds = [d] ∧ RepQ K H d x := by
  cases ds with
  | nil => cases h
  | cons d ds =>
    obtain ⟨v, r, e, p, q⟩ := h
    cases e
    cases ds with
    | nil => exact ⟨d, rfl, p⟩
    | cons d' ds => obtain ⟨_, _, e, _⟩ := q; cases e
theorem qs2 {ds : List D} {x y : V} (h : RepQs K H ds [x, y]) : ∃ d e, ds = [d, e] ∧ RepQ K H d x ∧ RepQ K H e y := by
  cases ds with
  | nil => cases h
  | cons d ds =>
    obtain ⟨v, r, e, p, q⟩ := h
    cases e
    obtain ⟨e, rfl, q'⟩ := qs1 q
    exact ⟨d, e, rfl, p, q'⟩
theorem qs3 {ds : List D} {x y z : V} (h : RepQs K H ds [x, y, z]) : ∃ d e f, ds = [d, e, f] ∧ RepQ K H d x ∧ RepQ K H e y ∧ RepQ K H f z := by
  cases ds with
  | nil => cases h
  | cons d ds =>
    obtain ⟨v, r, e, p, q⟩ := h
    cases e
    obtain ⟨e, f, rfl, q1, q2⟩ := qs2 q
    exact ⟨d, e, f, rfl, p, q1, q2⟩
/-- an answer that is data without a heap -/
theorem flatR {r : R} {v : V} {Q : VK} (q : ∀ v H', (∀ a u, H a = some u → H' a = some u) → (r.own = true → ∃ a, v = .ref a ∧ H a = none) → RepR K H' r v → Q v H') (hr : RepR K H r v) (ho : r.own = false) : Q v H :=
  q v H (fun _ _ h => h) (fun h => by rw [ho] at h; cases h) hr
/-- a new list -/
theorem newL {l : List D} {vs : List V} {Q : VK} {p : Addr} (q : ∀ v H', (∀ a u, H a = some u → H' a = some u) → ((R.l l).own = true → ∃ a, v = .ref a ∧ H a = none) → RepR K H' (.l l) v → Q v H') (hr : Reps K H l vs) (np : H p = none) : Q (.ref p) (upd H p (.lst vs)) := by
  have k : ∀ a u, H a = some u → upd H p (.lst vs) a = some u := fun a u h => by rw [upd_ne (ne_of_none h np)]; exact h
  exact q _ _ k (fun _ => ⟨p, rfl, np⟩) ⟨p, vs, rfl, upd_same, Reps.mono (fun a u h _ => k a u h) _ _ hr⟩
/-- a new tuple -/
theorem newT {l : List D} {vs : List V} {Q : VK} {p : Addr} (q : ∀ v H', (∀ a u, H a = some u → H' a = some u) → ((R.v (.tup l)).own = true → ∃ a, v = .ref a ∧ H a = none) → RepR K H' (.v (.tup l)) v → Q v H') (hr : Reps K H l vs) {o : Obj} (hd : o.dict = none) (np : H p = none) : Q (.ref p) (upd H p (.frz o (.tup vs))) := by
  have k : ∀ a u, H a = some u → upd H p (.frz o (.tup vs)) a = some u := fun a u h => by rw [upd_ne (ne_of_none h np)]; exact h
  exact q _ _ k (fun h => by cases h) ⟨p, vs, rfl, .inl ⟨o, upd_same, hd⟩, Reps.mono (fun a u h _ => k a u h) _ _ hr⟩
/-- a new dict -/
theorem newM {l : List (D × D)} {u : HO} {kvs : List (D × V)} {Q : VK} {p : Addr} (q : ∀ v H', (∀ a u, H a = some u → H' a = some u) → ((R.m l).own = true → ∃ a, v = .ref a ∧ H a = none) → RepR K H' (.m l) v → Q v H') (ho : DictO u kvs) (hr : RepP K H l kvs) (np : H p = none) : Q (.ref p) (upd H p u) := by
  have k : ∀ a w, H a = some w → upd H p u a = some w := fun a w h => by rw [upd_ne (ne_of_none h np)]; exact h
  exact q _ _ k (fun _ => ⟨p, rfl, np⟩) ⟨p, u, kvs, rfl, upd_same, ho, RepP.mono (fun a u h _ => k a u h) _ _ hr⟩
end

section
variable {X : Cx}
theorem opr_weak {f : Value → Value → Sem Value} {r r' : R2} (h : OpR X f r) (w : ∀ x y H Q, r' x y H Q → r x y H Q) : OpR X f r' := fun pins s σ H x y v u Q I rx ry q => h pins s σ H x y v u Q I rx ry (w x y H Q q)
theorem callr_weak {f : Value} {r r' : List V → Hp → VK → Prop} (h : CallR X f r) (w : ∀ xs H Q, r' xs H Q → r xs H Q) : CallR X f r' := fun pins s σ H xs us Q I rx q => h pins s σ H xs us Q I rx (w xs H Q q)
theorem unr_weak {f : Value → Sem Value} {r r' : V → Hp → VK → Prop} (h : UnR X f r) (w : ∀ x H Q, r' x H Q → r x H Q) : UnR X f r' := fun pins s σ H x v Q I rx q => h pins s σ H x v Q I rx (w x H Q q)
/-- an operation with two operands, over data -/
abbrev Ob (X : Cx) (f : Value → Value → Sem Value) (o : Op) : Prop := OpR X f fun x y H Q => OpW X.K o [x, y] H Q

/-! ### + - * // % ** -/
theorem lst_rd {pins : List (Addr × Obj)} {σ : L2.St} {H : Hp} {s : Shared} {l : Addr} {xs : List V} (I : Inv X pins σ H s) (h : Rd H l (.lst xs)) :
    xs.length ≤ sizeLine ∧ ∃ (its : List Value) (n : Nat), Vals xs its ∧ xs.length = its.length ∧ s.heap.get? l = some { cls := .type "list", data := .seq its.toArray n } := by
  obtain ⟨z, its, n, r, e⟩ := h.ok I.hok
  exact ⟨z, its, n, r, r.length, e⟩
/-- list + list, of any that are read -/
theorem op_catL : OpR X (binaryOp .Add) (fun x y H Q => ∃ l b xs zs, x = .ref l ∧ y = .ref b ∧ Rd H l (.lst xs) ∧ Rd H b (.lst zs) ∧ xs.length + zs.length ≤ sizeLine ∧ ∀ p, H p = none → Q (.ref p) (upd H p (.lst (xs ++ zs)))) := by
  intro pins s σ H x y v u Q I rx ry h
  obtain ⟨l, b, xs, zs, rfl, rfl, hH, hB, hz, q⟩ := h
  cases rx
  cases ry
  obtain ⟨z, its, n, r, hl, e⟩ := lst_rd I hH
  obtain ⟨z2, its2, n2, r2, hl2, e2⟩ := lst_rd I hB
  refine PySem.P.add_list e e2 ?_ (by rw [List.size_toArray, List.size_toArray]; omega)
  have ea : its.toArray ++ its2.toArray = (its ++ its2).toArray := by simp
  rw [ea]
  exact ⟨.ref _, _, I.lnew (t' := s.toks) (r.append r2) (by rw [List.length_append]; omega), rfl, q _ I.fresh⟩
/-- the object of a new tuple -/
def tupO (us : Array Value) : Obj := { cls := .type "tuple", data := .seq us }
theorem tupO_ok {P : Program} {w : World} {H : Hp} {h : Heap} {xs : List V} {its : List Value} (hz : xs.length ≤ sizeLine) (r : Vals xs its) : ObjOk P w H (h.push (tupO its.toArray)) h.objs.size (.frz (tupO its.toArray) (.tup xs)) :=
  ⟨Heap.get?_push_size _ rfl, hz, its, r, IsTup.new _ _⟩
/-- t + u -/
def rCatP (K : PySem.W.Frag) : R2 := fun x y H Q => ∃ a b xs ys, x = .ref a ∧ y = .ref b ∧ SqT K H a xs ∧ SqT K H b ys ∧ xs.length + ys.length ≤ sizeLine ∧
  (xs = [] → Q (.ref b) H) ∧ (xs ≠ [] → ys = [] → Q (.ref a) H) ∧ (xs ≠ [] → ys ≠ [] → ∀ p o, H p = none → o.dict = none → Q (.ref p) (upd H p (.frz o (.tup (xs ++ ys)))))
theorem op_catP : OpR X (binaryOp .Add) (rCatP X.K) := by
  intro pins s σ H x y v u Q I rx ry h
  obtain ⟨a, b, xs, ys, rfl, rfl, ha, hb, hz, q0, q1, q2⟩ := h
  cases rx
  cases ry
  obtain ⟨its, r1, p1, _⟩ := I.tuple ha
  obtain ⟨its2, r2, p2, _⟩ := I.tuple hb
  by_cases hx : xs = []
  · subst hx
    cases r1
    exact cat_tup0 p1 p2 ⟨.ref b, H, I, rfl, q0 rfl⟩
  · refine HT.cat_tup p1 p2 (fun z => hx (r1.nil_iff.mp z)) (fun z => ⟨.ref a, H, I, rfl, q1 hx (r2.nil_iff.mp z)⟩) (fun z => ?_) (by rw [← r1.length, ← r2.length]; exact hz)
    exact ⟨.ref s.heap.objs.size, _, I.laid (t' := s.toks) (o := .frz (tupO (its ++ its2).toArray) (.tup (xs ++ ys))) (fun b ob q => Heap.get?_push_of_some _ q) (Nat.le_refl _) (tupO_ok (by rw [List.length_append]; exact hz) (r1.append r2)), rfl, q2 hx (fun w => z (r2.nil_iff.mpr w)) _ _ (I.hok.fresh (Nat.le_refl _)) rfl⟩
theorem st_app (a b : List Nat) : st a ++ st b = st (a ++ b) := by
  show Str.append (st a) (st b) = st (a ++ b)
  simp [Str.append, st]
theorem ob_add : Ob X (binaryOp .Add) .add := by
  refine opr_weak (OpR.or op_add (OpR.or op_add_str (OpR.or op_catP op_catL))) fun x y H Q h => ?_
  obtain ⟨ds, r, hq, ho, q⟩ := h
  obtain ⟨d, e, rfl, h1, h2⟩ := qs2 hq
  cases d <;> cases e <;> simp only [opD, o_add] at ho <;> try cases ho
  case int.int i j =>
    cases h1.int
    cases h2.int
    exact .inl ⟨i, j, rfl, rfl, flatR q rfl rfl⟩
  case str.str a b =>
    split at ho
    · rename_i hs
      cases ho
      cases h1.str
      cases h2.str
      refine .inr (.inl ⟨st a, st b, rfl, rfl, ?_, ?_⟩)
      · have := small_lt hs
        rw [st_len, st_len]
        omega
      · rw [st_app]
        exact flatR q rfl rfl
    · cases ho
  case tup.tup l m =>
    split at ho
    · rename_i hs
      cases ho
      obtain ⟨a, vs, rfl, s1, r1⟩ := h1.tup
      obtain ⟨b, ws, rfl, s2, r2⟩ := h2.tup
      have := small_lt hs
      have l1 := r1.len
      have l2 := r2.len
      refine .inr (.inr (.inl ⟨a, b, vs, ws, rfl, rfl, s1.sq, s2.sq, by omega, fun e => ?_, fun _ e => ?_, fun _ _ p o np hd => newT q (Reps.append r1 r2) hd np⟩))
      · subst e
        have : l = [] := List.length_eq_zero_iff.mp l1
        subst this
        exact flatR q ⟨b, ws, rfl, s2, r2⟩ rfl
      · subst e
        have : m = [] := List.length_eq_zero_iff.mp l2
        subst this
        exact flatR q ⟨a, vs, rfl, s1, by rw [List.append_nil]; exact r1⟩ rfl
    · cases ho
  case lst.lst l m =>
    split at ho
    · rename_i hs
      cases ho
      obtain ⟨a, vs, rfl, s1, r1⟩ := h1.lst
      obtain ⟨b, ws, rfl, s2, r2⟩ := h2.lst
      have := small_lt hs
      have l1 := r1.len
      have l2 := r2.len
      exact .inr (.inr (.inr ⟨a, b, vs, ws, rfl, rfl, s1, s2, by omega, fun p np => newL q (Reps.append r1 r2) np⟩))
    · cases ho
/-- of two ints -/
theorem ob_int {f : Value → Value → Sem Value} {o : Op} {r : R2} (h : OpR X f r) (inv : ∀ d e x, opD o [d, e] = some x → ∃ i j, d = .int i ∧ e = .int j ∧ x.own = false ∧
    ∀ H Q, (∀ v, RepR X.K H x v → Q v H) → r (.int i) (.int j) H Q) : Ob X f o := by
  refine opr_weak h fun x y H Q h => ?_
  obtain ⟨ds, r, hq, ho, q⟩ := h
  obtain ⟨d, e, rfl, h1, h2⟩ := qs2 hq
  obtain ⟨i, j, rfl, rfl, hx, k⟩ := inv _ _ _ ho
  cases h1.int
  cases h2.int
  exact k H Q fun v hv => flatR q hv hx
theorem ob_sub : Ob X (binaryOp .Sub) .sub := ob_int op_sub fun d e x h => by
  cases d <;> cases e <;> simp only [opD, o_sub] at h <;> cases h
  exact ⟨_, _, rfl, rfl, rfl, fun H Q q => ⟨_, _, rfl, rfl, q _ rfl⟩⟩
theorem mulOk_of {i j : Int} (h : mulOk i j = true) : CMul i j := by
  unfold mulOk at h
  rw [Bool.or_eq_true, decide_eq_true_eq, decide_eq_true_eq] at h
  rcases h with h | h
  · exact .inl ⟨by omega, by omega⟩
  · exact .inr ⟨by omega, by omega⟩
theorem ob_mul : Ob X (binaryOp .Mult) .mul := ob_int op_mul fun d e x h => by
  cases d <;> cases e <;> simp only [opD, o_mul] at h <;> try cases h
  split at h
  · rename_i hm
    cases h
    exact ⟨_, _, rfl, rfl, rfl, fun H Q q => ⟨_, _, rfl, rfl, mulOk_of hm, q _ rfl⟩⟩
  · cases h
theorem ob_fdiv : Ob X (binaryOp .FloorDiv) .fdiv := ob_int op_fdiv fun d e x h => by
  cases d <;> cases e <;> simp only [opD, o_fdiv] at h <;> try cases h
  split at h
  · rename_i hm
    cases h
    simp only [Bool.and_eq_true, decide_eq_true_eq] at hm
    exact ⟨_, _, rfl, rfl, rfl, fun H Q q => ⟨_, _, rfl, rfl, hm, q _ rfl⟩⟩
  · cases h
theorem ob_mod : Ob X (binaryOp .Mod) .mod := ob_int op_mod fun d e x h => by
  cases d <;> cases e <;> simp only [opD, o_mod] at h <;> try cases h
  split at h
  · rename_i hm
    cases h
    exact ⟨_, _, rfl, rfl, rfl, fun H Q q => ⟨_, _, rfl, rfl, hm, q _ rfl⟩⟩
  · cases h
theorem ob_pow : Ob X (binaryOp .Pow) .pow := ob_int op_pow fun d e x h => by
  cases d <;> cases e <;> simp only [opD, o_pow] at h <;> try cases h
  split at h
  · rename_i hm
    cases h
    simp only [Bool.and_eq_true, decide_eq_true_eq] at hm
    exact ⟨_, _, rfl, rfl, rfl, fun H Q q => ⟨_, _, rfl, rfl, ⟨hm.1.1, hm.1.2, hm.2⟩, q _ rfl⟩⟩
  · cases h
/-! ### comparisons -/
theorem ltL_lt : ∀ (a b : List Nat), ltL a b = decide (a < b)
  | [], [] => by simp [ltL]
  | [], b :: m => by simp [ltL]
  | a :: l, [] => by simp [ltL]
  | a :: l, b :: m => by
    unfold ltL
    rw [ltL_lt l m]
    by_cases h : a < b
    · simp [h, List.cons_lt_cons_iff]
    · by_cases h2 : a = b
      · subst h2
        simp [List.cons_lt_cons_iff]
      · simp [h, h2, List.cons_lt_cons_iff]
theorem st_list (a : List Nat) : (st a).cps.toList = a := by simp [st]

mutual
def D.py : D → PyData
  | .non => .none
  | .bl b => .bool b
  | .int i => .int i
  | .str s => .str (st s)
  | .tup l => .tuple (D.pys l)
  | .lst l => .list (D.pys l)
  | .dic _ => .dict []
def D.pys : List D → List PyData
  | [] => []
  | d :: l => D.py d :: D.pys l
end
mutual
theorem py_plain : ∀ d : D, d.py.plain = noDic d
  | .non => rfl
  | .bl _ => rfl
  | .int _ => rfl
  | .str _ => rfl
  | .tup l => by simp only [D.py, PyData.plain, noDic, pys_plain l]
  | .lst l => by simp only [D.py, PyData.plain, noDic, pys_plain l]
  | .dic _ => rfl
theorem pys_plain : ∀ l : List D, PyData.plainAll (D.pys l) = noDics l
  | [] => rfl
  | d :: l => by simp only [D.pys, PyData.plainAll, noDics, py_plain d, pys_plain l]
end
mutual
theorem py_dep : ∀ d : D, noDic d = true → d.py.depth = dep d
  | .non, _ => rfl
  | .bl _, _ => rfl
  | .int _, _ => rfl
  | .str _, _ => rfl
  | .tup l, h => by simp only [D.py, PyData.depth, dep, pys_dep l h]
  | .lst l, h => by simp only [D.py, PyData.depth, dep, pys_dep l h]
  | .dic _, h => by cases h
theorem pys_dep : ∀ l : List D, noDics l = true → PyData.depthAll (D.pys l) = deps l
  | [], _ => rfl
  | d :: l, h => by
    simp only [noDics, Bool.and_eq_true] at h
    simp only [D.pys, PyData.depthAll, deps, py_dep d h.1, pys_dep l h.2]
end
mutual
theorem py_eqv : ∀ d e : D, noDic d = true → PyData.eqv d.py e.py = eqs d e
  | .non, e, _ => by cases e <;> rfl
  | .bl _, e, _ => by cases e <;> rfl
  | .int _, e, _ => by cases e <;> rfl
  | .str a, e, _ => by
    cases e <;> try rfl
    rename_i b
    show (st a == st b) = (a == b)
    by_cases h : a = b
    · subst h; simp
    · have : st a ≠ st b := fun z => h (st_inj z)
      rw [beq_eq_false_iff_ne.mpr h, beq_eq_false_iff_ne.mpr this]
  | .tup l, e, h => by
    cases e <;> try rfl
    exact pys_eqv l _ h
  | .lst l, e, h => by
    cases e <;> try rfl
    exact pys_eqv l _ h
  | .dic _, _, h => by cases h
theorem pys_eqv : ∀ l m : List D, noDics l = true → PyData.eqvAll (D.pys l) (D.pys m) = eqsL l m
  | [], [], _ => rfl
  | [], _ :: _, _ => rfl
  | _ :: _, [], _ => rfl
  | d :: l, e :: m, h => by
    simp only [noDics, Bool.and_eq_true] at h
    simp only [D.pys, PyData.eqvAll, eqsL, py_eqv d e h.1, pys_eqv l m h.2]
end
theorem pys_any : ∀ (l : List D) (k : D), noDics l = true → (D.pys l).any (fun y => PyData.eqv y k.py) = l.any fun x => eqs x k
  | [], _, _ => rfl
  | d :: l, k, h => by
    simp only [noDics, Bool.and_eq_true] at h
    simp only [D.pys, List.any_cons, py_eqv d k h.1, pys_any l k h.2]

section
variable {pins : List (Addr × Obj)} {σ : L2.St} {H : Hp} {s : Shared}
mutual
theorem Rep.reads (I : Inv X pins σ H s) : ∀ (d : D) (v : V) (u : Value), noDic d = true → Rep X.K H d v → RelV v u → ∃ as, Reads s.heap u d.py as
  | .non, v, u, _, h, r => by
    cases (show v = .non from h)
    cases r
    exact ⟨_, Reads.none⟩
  | .bl b, v, u, _, h, r => by
    cases (show v = .bl b from h)
    cases r
    exact ⟨_, Reads.bool b⟩
  | .int i, v, u, _, h, r => by
    cases (show v = .int i from h)
    obtain ⟨t, rfl⟩ := r
    exact ⟨_, Reads.int i t⟩
  | .str x, v, u, _, h, r => by
    cases (show v = .str (st x) from h)
    obtain ⟨t, rfl⟩ := r
    exact ⟨_, Reads.str (st x) t⟩
  | .tup l, v, u, n, h, r => by
    obtain ⟨a, vs, rfl, hs, ha⟩ := h
    cases r
    obtain ⟨its, rv, ⟨o, ho, hc, n', hd⟩, _⟩ := I.tuple hs.sq
    obtain ⟨as, hr⟩ := Reps.reads I l vs its n ha rv
    exact ⟨_, Reads.tuple ho hc hd hr⟩
  | .lst l, v, u, n, h, r => by
    obtain ⟨a, vs, rfl, hs, ha⟩ := h
    cases r
    obtain ⟨_, its, n', rv, _, ho⟩ := lst_rd I hs.rd
    obtain ⟨as, hr⟩ := Reps.reads I l vs its n ha rv
    exact ⟨_, Reads.list ho rfl rfl hr⟩
  | .dic l, v, u, n, _, _ => by cases n
theorem Reps.reads (I : Inv X pins σ H s) : ∀ (l : List D) (vs : List V) (us : List Value), noDics l = true → Reps X.K H l vs → Vals vs us → ∃ as, ReadsAll s.heap us (D.pys l) as
  | [], vs, us, _, h, r => by
    cases (show vs = [] from h)
    cases r
    exact ⟨_, ReadsAll.nil⟩
  | d :: l, vs, us, n, h, r => by
    obtain ⟨v, w, rfl, h1, h2⟩ := h
    simp only [noDics, Bool.and_eq_true] at n
    cases r with
    | cons r1 r2 =>
      obtain ⟨as, q1⟩ := Rep.reads I d v _ n.1 h1 r1
      obtain ⟨bs, q2⟩ := Reps.reads I l w _ n.2 h2 r2
      exact ⟨_, ReadsAll.cons q1 q2⟩
end
theorem RepQ.reads (I : Inv X pins σ H s) {d : D} {v : V} {u : Value} (n : noDic d = true) (h : RepQ X.K H d v) (r : RelV v u) : ∃ as, Reads s.heap u d.py as := by
  obtain ⟨x, e, q⟩ := h
  cases x with
  | v y =>
    cases e
    exact Rep.reads I _ v u n q r
  | l xs =>
    cases e
    obtain ⟨a, vs, rfl, hs, ha⟩ := q
    cases r
    obtain ⟨_, its, n', rv, _, ho⟩ := lst_rd I (.inl hs)
    obtain ⟨as, hr⟩ := Reps.reads I xs vs its n ha rv
    exact ⟨_, Reads.list ho rfl rfl hr⟩
  | m l => cases e; cases n
end
/-- dict == {} -/
theorem eq_dict0 (hu : X.A.units < cLine) {pins : List (Addr × Obj)} {s : Shared} {σ : L2.St} {H : Hp} {a b : Addr} {ks : List (Key × V)} {Q : VK} (I : Inv X pins σ H s) (ha : Rd H a (.dK ks)) (hb : Rd H b (.dK [])) (q : Q (.bl ks.isEmpty) H) :
    wpAny (model X.prog X.w) X.A (compareOp .Eq (.ref a) (.ref b)) (EP X pins σ Q) X.xe s := by
  obtain ⟨_, ya, va, ra, da⟩ := ha.ok I.hok
  obtain ⟨_, yb, vb, rb, db⟩ := hb.ok I.hok
  cases rb
  have hl := ra.length
  refine PySem.W.keq_eq (knd := mixKind X.prog X.w) (r := true) ya yb da db hu (fun e => ?_) (fin_bl I q ?_)
  · have : va = [] := List.length_eq_zero_iff.mp e
    subst this
    exact .nil
  · cases ks with
    | nil => cases ra; rfl
    | cons p r => cases ra; rfl
theorem ne_dict0 (hu : X.A.units < cLine) {pins : List (Addr × Obj)} {s : Shared} {σ : L2.St} {H : Hp} {a b : Addr} {ks : List (Key × V)} {Q : VK} (I : Inv X pins σ H s) (ha : Rd H a (.dK ks)) (hb : Rd H b (.dK [])) (q : Q (.bl (!ks.isEmpty)) H) :
    wpAny (model X.prog X.w) X.A (compareOp .NotEq (.ref a) (.ref b)) (EP X pins σ Q) X.xe s := by
  obtain ⟨_, ya, va, ra, da⟩ := ha.ok I.hok
  obtain ⟨_, yb, vb, rb, db⟩ := hb.ok I.hok
  cases rb
  have hl := ra.length
  refine PySem.W.keq_ne (knd := mixKind X.prog X.w) (r := true) ya yb da db hu (fun e => ?_) (fin_bl I q ?_)
  · have : va = [] := List.length_eq_zero_iff.mp e
    subst this
    exact .nil
  · cases ks with
    | nil => cases ra; rfl
    | cons p r => cases ra; rfl
theorem dk_of {u : HO} {kvs : List (D × V)} (h : DictO u kvs) : ∃ ks : List (Key × V), u = .dK ks ∧ kvs = ks.map fun p => (keyD p.1, p.2) := h
theorem ob_eq (hu : X.A.units + 64 < cLine) : Ob X (compareOp .Eq) .eq := by
  intro pins s σ H x y v u Q I rx ry h
  obtain ⟨ds, r, hq, ho, q⟩ := h
  obtain ⟨d, e, rfl, h1, h2⟩ := qs2 hq
  simp only [opD] at ho
  unfold o_eq at ho
  split at ho
  · rename_i a hh
    cases hh
    cases ho
    obtain ⟨p, u1, k1, rfl, g1, o1, r1⟩ := h1.dic
    obtain ⟨p2, u2, k2, rfl, g2, o2, r2⟩ := h2.dic
    obtain ⟨ks, rfl, rfl⟩ := dk_of o1
    obtain ⟨ks2, rfl, rfl⟩ := dk_of o2
    have l1 := r1.len
    have l2 := r2.len
    rw [List.length_map] at l1 l2
    have : ks2 = [] := List.length_eq_zero_iff.mp l2.symm
    subst this
    cases rx
    cases ry
    refine eq_dict0 (by omega) I g1 g2 ?_
    have : ks.isEmpty = a.isEmpty := by
      cases ks <;> cases a <;> first | rfl | (simp at l1)
    rw [this]
    exact flatR q rfl rfl
  · rename_i a b _ hh
    cases hh
    split at ho
    · rename_i hc
      cases ho
      simp only [Bool.and_eq_true, decide_eq_true_eq] at hc
      obtain ⟨⟨⟨n1, n2⟩, d1⟩, d2⟩ := hc
      obtain ⟨as, r1⟩ := RepQ.reads I n1 h1 rx
      obtain ⟨bs, r2⟩ := RepQ.reads I n2 h2 ry
      refine PySem.SeqAt.eq_plain r1 r2 (by rw [py_plain]; exact n1) (by rw [py_plain]; exact n2) ?_ ?_
      · rw [py_dep d n1]
        have : min (dep d) e.py.depth ≤ dep d := Nat.min_le_left _ _
        omega
      · rw [py_eqv d e n1]
        exact ⟨.bl _, H, I, rfl, flatR q rfl rfl⟩
    · cases ho
  · cases ho
theorem ob_ne (hu : X.A.units + 64 < cLine) : Ob X (compareOp .NotEq) .ne := by
  intro pins s σ H x y v u Q I rx ry h
  obtain ⟨ds, r, hq, ho, q⟩ := h
  obtain ⟨d, e, rfl, h1, h2⟩ := qs2 hq
  simp only [opD] at ho
  unfold o_ne at ho
  split at ho
  · rename_i a hh
    cases hh
    cases ho
    obtain ⟨p, u1, k1, rfl, g1, o1, r1⟩ := h1.dic
    obtain ⟨p2, u2, k2, rfl, g2, o2, r2⟩ := h2.dic
    obtain ⟨ks, rfl, rfl⟩ := dk_of o1
    obtain ⟨ks2, rfl, rfl⟩ := dk_of o2
    have l1 := r1.len
    have l2 := r2.len
    rw [List.length_map] at l1 l2
    have : ks2 = [] := List.length_eq_zero_iff.mp l2.symm
    subst this
    cases rx
    cases ry
    refine ne_dict0 (by omega) I g1 g2 ?_
    have : ks.isEmpty = a.isEmpty := by
      cases ks <;> cases a <;> first | rfl | (simp at l1)
    rw [this]
    exact flatR q rfl rfl
  · rename_i a b _ hh
    cases hh
    split at ho
    · rename_i hc
      cases ho
      simp only [Bool.and_eq_true, decide_eq_true_eq] at hc
      obtain ⟨⟨⟨n1, n2⟩, d1⟩, d2⟩ := hc
      obtain ⟨as, r1⟩ := RepQ.reads I n1 h1 rx
      obtain ⟨bs, r2⟩ := RepQ.reads I n2 h2 ry
      refine PySem.SeqAt.ne_plain r1 r2 (by rw [py_plain]; exact n1) (by rw [py_plain]; exact n2) ?_ ?_
      · rw [py_dep d n1]
        have : min (dep d) e.py.depth ≤ dep d := Nat.min_le_left _ _
        omega
      · rw [py_eqv d e n1]
        exact ⟨.bl _, H, I, rfl, flatR q rfl rfl⟩
    · cases ho
  · cases ho
theorem ob_lt : Ob X (compareOp .Lt) .lt := by
  refine opr_weak (OpR.or op_lt op_lt_str) fun x y H Q h => ?_
  obtain ⟨ds, r, hq, ho, q⟩ := h
  obtain ⟨d, e, rfl, h1, h2⟩ := qs2 hq
  cases d <;> cases e <;> simp only [opD, o_lt] at ho <;> cases ho
  · cases h1.int
    cases h2.int
    exact .inl ⟨_, _, rfl, rfl, flatR q rfl rfl⟩
  · cases h1.str
    cases h2.str
    refine .inr ⟨_, _, rfl, rfl, ?_⟩
    rw [st_list, st_list, ← ltL_lt]
    exact flatR q rfl rfl
theorem ob_gt : Ob X (compareOp .Gt) .gt := by
  refine opr_weak (OpR.or op_gt op_gt_str) fun x y H Q h => ?_
  obtain ⟨ds, r, hq, ho, q⟩ := h
  obtain ⟨d, e, rfl, h1, h2⟩ := qs2 hq
  cases d <;> cases e <;> simp only [opD, o_gt] at ho <;> cases ho
  · cases h1.int
    cases h2.int
    exact .inl ⟨_, _, rfl, rfl, flatR q rfl rfl⟩
  · cases h1.str
    cases h2.str
    refine .inr ⟨_, _, rfl, rfl, ?_⟩
    rw [st_list, st_list, ← ltL_lt]
    exact flatR q rfl rfl
theorem ob_le : Ob X (compareOp .LtE) .le := by
  refine opr_weak op_le fun x y H Q h => ?_
  obtain ⟨ds, r, hq, ho, q⟩ := h
  obtain ⟨d, e, rfl, h1, h2⟩ := qs2 hq
  cases d <;> cases e <;> simp only [opD, o_le] at ho <;> cases ho
  cases h1.int
  cases h2.int
  exact ⟨_, _, rfl, rfl, flatR q rfl rfl⟩
theorem ob_ge : Ob X (compareOp .GtE) .ge := by
  refine opr_weak op_ge fun x y H Q h => ?_
  obtain ⟨ds, r, hq, ho, q⟩ := h
  obtain ⟨d, e, rfl, h1, h2⟩ := qs2 hq
  cases d <;> cases e <;> simp only [opD, o_ge] at ho <;> cases ho
  cases h1.int
  cases h2.int
  exact ⟨_, _, rfl, rfl, flatR q rfl rfl⟩
/-! ### dicts: what is looked up -/
theorem keyD_kV {K : PySem.W.Frag} {H : Hp} {k : D} {y : V} (hk : keyOk k = true) (h : RepQ K H k y) : ∃ q : Key, keyD q = k ∧ y = kV q := by
  cases k <;> try (cases hk)
  · exact ⟨.inl _, rfl, h.int⟩
  · rename_i s
    exact ⟨.inr (st s), by simp [keyD, st], h.str⟩
theorem keyD_inj {a b : Key} (h : keyD a = keyD b) : a = b := by
  cases a <;> cases b <;> simp only [keyD] at h
  · cases h; rfl
  · cases h
  · cases h
  · rename_i x y
    have h' := D.str.inj h
    cases x
    cases y
    simp at h'
    rw [h']
mutual
theorem beq_refl : ∀ d : D, D.beq d d = true
  | .non => rfl
  | .bl b => by simp [D.beq]
  | .int b => by simp [D.beq]
  | .str b => by simp [D.beq]
  | .tup l => beqs_refl l
  | .lst l => beqs_refl l
  | .dic l => beqp_refl l
theorem beqs_refl : ∀ d : List D, D.beqs d d = true
  | [] => rfl
  | a :: l => by simp [D.beqs, beq_refl a, beqs_refl l]
theorem beqp_refl : ∀ d : List (D × D), D.beqp d d = true
  | [] => rfl
  | (a, b) :: l => by simp [D.beqp, beq_refl a, beq_refl b, beqp_refl l]
end
mutual
theorem beq_eq : ∀ d e : D, D.beq d e = true → d = e
  | .non, e, h => by cases e <;> first | rfl | cases h
  | .bl b, e, h => by cases e <;> simp_all [D.beq]
  | .int b, e, h => by cases e <;> simp_all [D.beq]
  | .str b, e, h => by cases e <;> simp_all [D.beq]
  | .tup l, e, h => by
    cases e <;> try (cases h)
    rw [beqs_eq l _ h]
  | .lst l, e, h => by
    cases e <;> try (cases h)
    rw [beqs_eq l _ h]
  | .dic l, e, h => by
    cases e <;> try (cases h)
    rw [beqp_eq l _ h]
theorem beqs_eq : ∀ d e : List D, D.beqs d e = true → d = e
  | [], [], _ => rfl
  | [], _ :: _, h => by cases h
  | _ :: _, [], h => by cases h
  | a :: l, b :: m, h => by
    simp only [D.beqs, Bool.and_eq_true] at h
    rw [beq_eq a b h.1, beqs_eq l m h.2]
theorem beqp_eq : ∀ d e : List (D × D), D.beqp d e = true → d = e
  | [], [], _ => rfl
  | [], _ :: _, h => by cases h
  | _ :: _, [], h => by cases h
  | (a, x) :: l, (b, y) :: m, h => by
    simp only [D.beqp, Bool.and_eq_true] at h
    rw [beq_eq a b h.1.1, beq_eq x y h.1.2, beqp_eq l m h.2]
end
theorem beq_iff {d e : D} : D.beq d e = true ↔ d = e := ⟨beq_eq d e, fun h => h ▸ beq_refl d⟩
theorem beq_ne {d e : D} (h : d ≠ e) : D.beq d e = false := by
  cases z : D.beq d e with
  | false => rfl
  | true => exact absurd (beq_eq d e z) h
theorem mlook_val {K : PySem.W.Frag} {H : Hp} (q : Key) : ∀ {l : List (D × D)} {ks : List (Key × V)}, RepP K H l (ks.map fun p => (keyD p.1, p.2)) →
    (∀ d, mlook l (keyD q) = some d → ∃ v, valV ks q = some v ∧ Rep K H d v) ∧ (mlook l (keyD q) = none → valV ks q = none)
  | [], ks, h => by
    have : ks = [] := by
      cases ks with
      | nil => rfl
      | cons p r => cases h
    subst this
    exact ⟨fun d h => (by cases h), fun _ => rfl⟩
  | (k, d) :: l, ks, h => by
    obtain ⟨v, r, e, h1, h2⟩ := h
    cases ks with
    | nil => cases e
    | cons p ks =>
      rw [List.map_cons] at e
      cases e
      obtain ⟨i1, i2⟩ := mlook_val q h2
      by_cases z : p.1 = q
      · rw [valV_pos z, z]
        refine ⟨fun d' hd => ?_, fun hn => ?_⟩
        · simp only [mlook, beq_refl, if_true, Option.some.injEq] at hd
          subst hd
          exact ⟨p.2, rfl, h1⟩
        · simp [mlook, beq_refl] at hn
      · have nz : D.beq (keyD p.1) (keyD q) = false := beq_ne fun w => z (keyD_inj w)
        rw [valV_neg z]
        simp only [mlook, nz, Bool.false_eq_true, if_false]
        exact ⟨i1, i2⟩
theorem dget_of {K : PySem.W.Frag} {H : Hp} {l : List (D × D)} {k : D} {x y : V} (hk : keyOk k = true) (h1 : RepQ K H (.dic l) x) (h2 : RepQ K H k y) :
    ∃ a o, x = .ref a ∧ DGet H a y o ∧ (∀ d, mlook l k = some d → ∃ v, o = some v ∧ Rep K H d v) ∧ (mlook l k = none → o = none) := by
  obtain ⟨a, u, kvs, rfl, g, o, r⟩ := h1.dic
  obtain ⟨ks, rfl, rfl⟩ := dk_of o
  obtain ⟨q, rfl, rfl⟩ := keyD_kV hk h2
  obtain ⟨m1, m2⟩ := mlook_val q r
  exact ⟨a, valV ks q, rfl, .inl ⟨ks, q, g, rfl, rfl⟩, m1, m2⟩
theorem op_din (hu : X.A.units + 1 < cLine) : OpR X (compareOp .In) (fun y x H Q => ∃ a o, x = .ref a ∧ DGet H a y o ∧ Q (.bl o.isSome) H) := by
  intro pins s σ H y x u v Q I ry rx h
  obtain ⟨a, o, rfl, g, q⟩ := h
  cases rx
  exact d_in hu I g ry fun s' I' => ⟨.bl o.isSome, H, I', rfl, q⟩
theorem op_dnin (hu : X.A.units + 1 < cLine) : OpR X (compareOp .NotIn) (fun y x H Q => ∃ a o, x = .ref a ∧ DGet H a y o ∧ Q (.bl (!o.isSome)) H) := by
  intro pins s σ H y x u v Q I ry rx h
  obtain ⟨a, o, rfl, g, q⟩ := h
  cases rx
  exact d_notIn hu I g ry fun s' I' => ⟨.bl (!o.isSome), H, I', rfl, q⟩
theorem op_inD (hu : X.A.units + 65 < cLine) : OpR X (compareOp .In) (fun x y H Q => ∃ k l, RepQ X.K H k x ∧ (RepQ X.K H (.tup l) y ∨ RepQ X.K H (.lst l) y) ∧ noDic k = true ∧ noDics l = true ∧ dep k ≤ 60 ∧ deps l ≤ 60 ∧ Q (.bl (l.any fun z => eqs z k)) H) := by
  intro pins s σ H x y v u Q I rx ry h
  obtain ⟨k, l, h1, h2, n1, n2, d1, d2, q⟩ := h
  obtain ⟨as, r1⟩ := RepQ.reads I n1 h1 rx
  have m : min (PyData.depthAll (D.pys l)) k.py.depth ≤ PyData.depthAll (D.pys l) := Nat.min_le_left _ _
  rw [pys_dep l n2] at m
  rw [← pys_any l k n2] at q
  rcases h2 with h2 | h2
  · obtain ⟨bs, r2⟩ := RepQ.reads I (d := .tup l) n2 h2 ry
    refine PySem.SeqAt.in_tuple_data r2 r1 (by rw [pys_plain]; exact n2) (by rw [py_plain]; exact n1) (by rw [pys_dep l n2]; omega) ⟨.bl _, H, I, rfl, q⟩
  · obtain ⟨bs, r2⟩ := RepQ.reads I (d := .lst l) n2 h2 ry
    refine PySem.SeqAt.in_list_data r2 r1 (by rw [pys_plain]; exact n2) (by rw [py_plain]; exact n1) (by rw [pys_dep l n2]; omega) ⟨.bl _, H, I, rfl, q⟩
theorem op_ninD (hu : X.A.units + 65 < cLine) : OpR X (compareOp .NotIn) (fun x y H Q => ∃ k l, RepQ X.K H k x ∧ (RepQ X.K H (.tup l) y ∨ RepQ X.K H (.lst l) y) ∧ noDic k = true ∧ noDics l = true ∧ dep k ≤ 60 ∧ deps l ≤ 60 ∧ Q (.bl (!l.any fun z => eqs z k)) H) := by
  intro pins s σ H x y v u Q I rx ry h
  obtain ⟨k, l, h1, h2, n1, n2, d1, d2, q⟩ := h
  obtain ⟨as, r1⟩ := RepQ.reads I n1 h1 rx
  have m : min (PyData.depthAll (D.pys l)) k.py.depth ≤ PyData.depthAll (D.pys l) := Nat.min_le_left _ _
  rw [pys_dep l n2] at m
  rw [← pys_any l k n2] at q
  rcases h2 with h2 | h2
  · obtain ⟨bs, r2⟩ := RepQ.reads I (d := .tup l) n2 h2 ry
    refine PySem.SeqAt.notIn_tuple_data r2 r1 (by rw [pys_plain]; exact n2) (by rw [py_plain]; exact n1) (by rw [pys_dep l n2]; omega) ⟨.bl _, H, I, rfl, q⟩
  · obtain ⟨bs, r2⟩ := RepQ.reads I (d := .lst l) n2 h2 ry
    refine PySem.SeqAt.notIn_list_data r2 r1 (by rw [pys_plain]; exact n2) (by rw [py_plain]; exact n1) (by rw [pys_dep l n2]; omega) ⟨.bl _, H, I, rfl, q⟩
theorem some_of_look {K : PySem.W.Frag} {H : Hp} {l : List (D × D)} {k : D} {o : Option V} (m1 : ∀ d, mlook l k = some d → ∃ v, o = some v ∧ Rep K H d v) (m2 : mlook l k = none → o = none) : o.isSome = mhas l k := by
  unfold mhas
  cases e : mlook l k with
  | none => rw [m2 e]; rfl
  | some d =>
    obtain ⟨v, rfl, _⟩ := m1 d e
    rfl
theorem ob_in (hu : X.A.units + 65 < cLine) : Ob X (compareOp .In) .in_ := by
  refine opr_weak (OpR.or op_in_sign (OpR.or (op_din (by omega)) (op_inD hu))) fun x y H Q h => ?_
  obtain ⟨ds, r, hq, ho, q⟩ := h
  obtain ⟨d, e, rfl, h1, h2⟩ := qs2 hq
  simp only [opD] at ho
  unfold o_in_ at ho
  split at ho
  · rename_i c t hh
    cases hh
    cases ho
    cases h1.str
    cases h2.str
    refine .inl ⟨c, st t, rfl, rfl, ?_⟩
    rw [st_list]
    exact flatR q rfl rfl
  · rename_i k kvs _ hh
    cases hh
    split at ho
    · rename_i hk
      cases ho
      obtain ⟨a, o, rfl, g, m1, m2⟩ := dget_of hk h2 h1
      refine .inr (.inl ⟨a, o, rfl, g, ?_⟩)
      rw [some_of_look m1 m2]
      exact flatR q rfl rfl
    · cases ho
  · rename_i k l hh
    cases hh
    split at ho
    · rename_i hc
      cases ho
      simp only [Bool.and_eq_true, decide_eq_true_eq] at hc
      exact .inr (.inr ⟨_, _, h1, .inl h2, hc.1.1.1, hc.1.1.2, hc.1.2, hc.2, flatR q rfl rfl⟩)
    · cases ho
  · rename_i k l hh
    cases hh
    split at ho
    · rename_i hc
      cases ho
      simp only [Bool.and_eq_true, decide_eq_true_eq] at hc
      exact .inr (.inr ⟨_, _, h1, .inr h2, hc.1.1.1, hc.1.1.2, hc.1.2, hc.2, flatR q rfl rfl⟩)
    · cases ho
  · cases ho
theorem ob_nin (hu : X.A.units + 65 < cLine) : Ob X (compareOp .NotIn) .nin := by
  refine opr_weak (OpR.or op_notIn_sign (OpR.or (op_dnin (by omega)) (op_ninD hu))) fun x y H Q h => ?_
  obtain ⟨ds, r, hq, ho, q⟩ := h
  obtain ⟨d, e, rfl, h1, h2⟩ := qs2 hq
  simp only [opD] at ho
  unfold o_nin at ho
  split at ho
  · rename_i c t hh
    cases hh
    cases ho
    cases h1.str
    cases h2.str
    refine .inl ⟨c, st t, rfl, rfl, ?_⟩
    rw [st_list]
    exact flatR q rfl rfl
  · rename_i k kvs _ hh
    cases hh
    split at ho
    · rename_i hk
      cases ho
      obtain ⟨a, o, rfl, g, m1, m2⟩ := dget_of hk h2 h1
      refine .inr (.inl ⟨a, o, rfl, g, ?_⟩)
      rw [some_of_look m1 m2]
      exact flatR q rfl rfl
    · cases ho
  · rename_i k l hh
    cases hh
    split at ho
    · rename_i hc
      cases ho
      simp only [Bool.and_eq_true, decide_eq_true_eq] at hc
      exact .inr (.inr ⟨_, _, h1, .inl h2, hc.1.1.1, hc.1.1.2, hc.1.2, hc.2, flatR q rfl rfl⟩)
    · cases ho
  · rename_i k l hh
    cases hh
    split at ho
    · rename_i hc
      cases ho
      simp only [Bool.and_eq_true, decide_eq_true_eq] at hc
      exact .inr (.inr ⟨_, _, h1, .inr h2, hc.1.1.1, hc.1.1.2, hc.1.2, hc.2, flatR q rfl rfl⟩)
    · cases ho
  · cases ho
end
end Pv
end
section
/-! PvY: rows of numbers: their order, sorting them; >, index, a list times 0 or 1. -/
namespace Pv
open PySem PySem.Spec PyProof.Rows L2

theorem ltI_lt : ∀ (a b : List Int), ltI a b = decide (a < b)
  | [], [] => by simp [ltI]
  | [], b :: m => by simp [ltI]
  | a :: l, [] => by simp [ltI]
  | a :: l, b :: m => by
    unfold ltI
    rw [ltI_lt l m]
    by_cases h : a < b
    · simp [h, List.cons_lt_cons_iff]
    · by_cases h2 : a = b
      · subst h2
        simp [List.cons_lt_cons_iff]
      · simp [h, h2, List.cons_lt_cons_iff]
theorem ltI_irr : ∀ a, ltI a a = false
  | [] => rfl
  | a :: l => by simp [ltI, ltI_irr l]
theorem ltI_tr : ∀ a b c, ltI a b = true → ltI b c = true → ltI a c = true := by
  intro a b c h1 h2
  rw [ltI_lt, decide_eq_true_eq] at *
  exact List.lt_trans h1 h2
theorem ltI_tot : ∀ a b, ltI a b = false → ltI b a = false → a = b := by
  intro a b h1 h2
  rw [ltI_lt, decide_eq_false_iff_not] at h1 h2
  exact List.le_antisymm h2 h1
abbrev leR (a b : List Int) : Prop := ltI b a = false
theorem leR_trans {a b c : List Int} (h1 : leR a b) (h2 : leR b c) : leR a c := by
  cases h : ltI c a with
  | false => exact h
  | true =>
    cases h3 : ltI a b with
    | true => rw [show leR b c = (ltI c b = false) from rfl, ltI_tr c a b h h3] at h2; cases h2
    | false =>
      have := ltI_tot a b h3 h1
      subst this
      rw [show leR a c = (ltI c a = false) from rfl] at h2
      rw [h] at h2; cases h2
theorem leR_of_lt {a b : List Int} (h : ltI a b = true) : leR a b := by
  cases h2 : ltI b a with
  | false => exact h2
  | true => have := ltI_tr a b a h h2; rw [ltI_irr] at this; cases this
theorem insR_perm (a : List Int) : ∀ l, (insR a l).Perm (a :: l)
  | [] => .refl _
  | b :: r => by
    unfold insR
    split
    · exact (List.Perm.cons b (insR_perm a r)).trans (.swap _ _ _)
    · exact .refl _
theorem sortR_perm : ∀ l, (sortR l).Perm l
  | [] => .refl _
  | a :: r => (insR_perm a _).trans (.cons a (sortR_perm r))
theorem insR_sorted (a : List Int) : ∀ l : List (List Int), l.Pairwise leR → (insR a l).Pairwise leR
  | [], _ => by simp [insR]
  | b :: r, h => by
    have hb := List.pairwise_cons.mp h
    unfold insR
    split
    · rename_i hlt
      refine List.pairwise_cons.mpr ⟨fun x hx => ?_, insR_sorted a r hb.2⟩
      have := (insR_perm a r).mem_iff.mp hx
      rcases List.mem_cons.mp this with e | e
      · rw [e]; exact leR_of_lt hlt
      · exact hb.1 x e
    · rename_i hge
      have hab : leR a b := by simpa using hge
      refine List.pairwise_cons.mpr ⟨fun x hx => ?_, h⟩
      rcases List.mem_cons.mp hx with e | e
      · rw [e]; exact hab
      · exact leR_trans hab (hb.1 x e)
theorem sortR_sorted : ∀ l : List (List Int), (sortR l).Pairwise leR
  | [] => List.Pairwise.nil
  | a :: r => insR_sorted a _ (sortR_sorted r)
theorem sortR_unique {l m : List (List Int)} (p : m.Perm l) (h : m.Pairwise leR) : m = sortR l :=
  List.Perm.eq_of_pairwise (fun a b _ _ h1 h2 => ltI_tot a b h2 h1) h (sortR_sorted l) (p.trans (sortR_perm l).symm)
theorem toRows_rep {K : PySem.W.Frag} {H : Hp} : ∀ {l : List D} {rs : List (List Int)} {vs : List V}, toRows l = some rs → Reps K H l vs → ∃ ps : List (V × List Int), vs = ps.map (·.1) ∧ rs = ps.map (·.2) ∧ l = rs.map rowD ∧ (∀ p ∈ ps, p.2 ≠ [] ∧ Rep K H (rowD p.2) p.1)
  | [], rs, vs, h, r => by
    cases h
    exact ⟨[], r, rfl, rfl, nofun⟩
  | d :: l, rs, vs, h, r => by
    cases d <;> try (cases h)
    rename_i ds
    rw [toRows] at h
    cases e : toInts ds with
    | none => rw [e] at h; cases h
    | some ns =>
      rw [e] at h
      simp only [Option.bind_some] at h
      split at h
      · cases h
      · rename_i hne
        cases e2 : toRows l with
        | none => rw [e2] at h; cases h
        | some rs' =>
          rw [e2] at h
          cases h
          obtain ⟨v, w, rfl, h1, h2⟩ := r
          obtain ⟨ps, rfl, rfl, e3, h3⟩ := toRows_rep e2 h2
          have hd : ds = ns.map D.int := by
            clear hne h1 h2 e2 e3
            induction ds generalizing ns with
            | nil => cases e; rfl
            | cons d ds ih =>
              cases d <;> try (cases e)
              rename_i i
              simp only [toInts] at e
              cases q : toInts ds with
              | none => rw [q] at e; cases e
              | some ms =>
                rw [q] at e
                cases e
                rw [ih _ q]
                rfl
          refine ⟨(v, ns) :: ps, rfl, rfl, by rw [List.map_cons, ← e3, hd]; rfl, fun p hp => ?_⟩
          rcases List.mem_cons.mp hp with rfl | hp
          · exact ⟨fun z => hne (by rw [show ns = [] from z]; rfl), by unfold rowD; rw [← hd]; exact h1⟩
          · exact h3 p hp
/-- sorted(xs), xs a list of tuples of numbers, none empty -/
def rSortedR (K : PySem.W.Frag) : List V → Hp → VK → Prop := fun vs H Q => ∃ (a : Addr) (ps : List (V × List Int)), vs = [V.ref a] ∧ SqL K H a (ps.map (·.1)) ∧ (∀ p ∈ ps, p.2 ≠ [] ∧ ∃ t, p.1 = V.ref t ∧ SqT K H t (p.2.map V.int)) ∧
  ∀ (qs : List (V × List Int)) p, qs.Perm ps → (qs.map (·.2)).Pairwise leR → H p = none → Q (.ref p) (upd H p (.lst (qs.map (·.1))))
section
variable {X : Cx}
theorem dataLe_tup {β : Type} (x : β → List Int) : PySem.W.dataLe false (fun b => .tuple ((x b).map .int)) = fun p q => !ltI (x q) (x p) := by
  funext p q
  show (!PySem.W.dataLt (.tuple ((x q).map .int)) (.tuple ((x p).map .int))) = _
  rw [PySem.W.dataLt_tuple]
  show (!PySem.W.rowLt ((x q).map .int) ((x p).map .int)) = _
  rw [PySem.W.dataLt_ints, ← ltI_lt]
theorem each_rel : ∀ {vs : List Value} {ps : List (V × List Int)}, Vals (ps.map (·.1)) vs → PySem.W.EachIs (fun v p => RelV p.1 v) vs ps
  | _, [], .nil => .nil
  | _, p :: ps, .cons r t => .cons r (each_rel t)
theorem rel_each : ∀ {vs : List Value} {ps : List (V × List Int)}, PySem.W.EachIs (fun v p => RelV p.1 v) vs ps → Vals (ps.map (·.1)) vs
  | _, _, .nil => .nil
  | _, _, .cons h t => .cons h (rel_each t)
theorem readsI {h : Heap} : ∀ {ns : List Int} {us : List Value}, Vals (ns.map V.int) us → ∃ as, ReadsAll h us (ns.map .int) as
  | [], _, .nil => ⟨_, .nil⟩
  | n :: ns, _, .cons r t => by
    obtain ⟨as, q⟩ := readsI t
    obtain ⟨k, rfl⟩ := r
    exact ⟨_, .cons (.int n k) q⟩
theorem cr_sortedR (hu : X.A.units + 8 < cLine) : CallR X (.builtin "sorted") (rSortedR X.K) := by
  intro pins s σ H vs us Q I r h
  obtain ⟨a, ps, rfl, hs, hp, q⟩ := h
  obtain ⟨its, rv, hl, hz⟩ := I.list hs
  rw [Vals.ref1 r]
  have e := each_rel rv
  have er : PySem.W.EachIs (fun v (p : V × List Int) => ∃ as, Reads s.heap v (.tuple (p.2.map .int)) as) its ps := by
    have : ∀ {vs : List Value} {qs : List (V × List Int)}, (∀ p ∈ qs, p.2 ≠ [] ∧ ∃ t, p.1 = V.ref t ∧ SqT X.K H t (p.2.map V.int)) → PySem.W.EachIs (fun v p => RelV p.1 v) vs qs → PySem.W.EachIs (fun v (p : V × List Int) => ∃ as, Reads s.heap v (.tuple (p.2.map .int)) as) vs qs := by
      intro vs qs hq he
      induction he with
      | nil => exact .nil
      | cons h t ih =>
        refine .cons ?_ (ih fun p hp => hq p (List.mem_cons_of_mem _ hp))
        obtain ⟨_, t, et, st⟩ := hq _ List.mem_cons_self
        rw [et] at h
        cases h
        obtain ⟨its2, r2, ⟨o, ho, hc, n, hd⟩, _⟩ := I.tuple st
        obtain ⟨as, ra⟩ := readsI r2
        exact ⟨_, Reads.tuple ho hc hd ra⟩
    exact this hp e
  have hdep : ∀ p : V × List Int, (PyData.tuple (p.2.map .int)).depth ≤ 1 := fun p => by
    simp only [PyData.depth]
    rw [PySem.W.depth_ints]
    omega
  refine PySem.W.sorted_data (R := fun v (p : V × List Int) => RelV p.1 v) (enc := fun p => .tuple (p.2.map .int)) (bs := ps) hl.isList e er (PySem.W.AllAlike.of fun p p' => by
    simp only [PySem.W.alike]
    exact PySem.W.alike_ints _ _) ?_ (by rw [List.length_map] at hz; exact hz) (fun p _ => by have := hdep p; omega) fun out ho eo => ?_
  · refine .inl fun d hd => ?_
    obtain ⟨p, hm, rfl⟩ := List.mem_map.mp hd
    cases e2 : p.2 with
    | nil => exact absurd e2 (hp p hm).1
    | cons n ns => exact ⟨.int n, ns.map .int, rfl⟩
  · obtain ⟨c, hc⟩ := sortedAll_at s.heap its out.toArray
    have hv := rel_each eo
    have hlen : ((ps.mergeSort (PySem.W.dataLe false fun p => .tuple (p.2.map .int))).map (·.1)).length ≤ sizeLine := by
      rw [List.length_map, List.length_mergeSort]
      rw [List.length_map] at hz
      exact hz
    have hn : H (s.heap.objs.size + 1) = none := I.hok.fresh (Nat.le_succ _)
    refine ⟨.ref (s.heap.objs.size + 1), upd H (s.heap.objs.size + 1) (.lst ((ps.mergeSort (PySem.W.dataLe false fun p => .tuple (p.2.map .int))).map (·.1))), I.laid (t' := s.toks) (fun _ _ => sortedAll_old) (Nat.le_succ _) ⟨hlen, out, c, hv, hc⟩, rfl, q _ _ (List.mergeSort_perm ps _) ?_ hn⟩
    rw [dataLe_tup (fun p : V × List Int => p.2), List.pairwise_map]
    have := List.pairwise_mergeSort (le := fun p q : V × List Int => !ltI q.2 p.2) (fun x y z h1 h2 => by
      simp only [Bool.not_eq_true'] at h1 h2 ⊢
      exact leR_trans h1 h2) (fun x y => by
      simp only [Bool.or_eq_true, Bool.not_eq_true']
      cases h : ltI y.2 x.2 with
      | false => exact .inl rfl
      | true => exact .inr (leR_of_lt h)) ps
    exact this.imp fun h => by simpa using h

/-- sorted(t), t a tuple of numbers -/
def rSortedTI (K : PySem.W.Frag) : List V → Hp → VK → Prop := fun vs H Q => ∃ (a : Addr) (ns : List Int), vs = [V.ref a] ∧ SqT K H a (ns.map V.int) ∧
  ∀ (ns' : List Int) (p : Addr), ns'.Perm ns → ns'.Pairwise (· ≤ ·) → H p = none → Q (.ref p) (upd H p (.lst (ns'.map V.int)))
theorem each_int : ∀ {ns : List Int} {vs : List Value}, Vals (ns.map V.int) vs → PySem.W.EachIs (fun v (n : Int) => ∃ t, v = Value.int n t) vs ns
  | [], _, .nil => .nil
  | n :: ns, _, .cons r t => .cons (by obtain ⟨k, rfl⟩ := r; exact ⟨k, rfl⟩) (each_int t)
theorem int_each : ∀ {ns : List Int} {vs : List Value}, PySem.W.EachIs (fun v (n : Int) => ∃ t, v = Value.int n t) vs ns → Vals (ns.map V.int) vs
  | _, _, .nil => .nil
  | _, _, .cons h t => .cons (by obtain ⟨k, rfl⟩ := h; exact ⟨k, rfl⟩) (int_each t)
theorem cr_sortedTI (hu : X.A.units + 8 < cLine) : CallR X (.builtin "sorted") (rSortedTI X.K) := by
  intro pins s σ H vs us Q I r h
  obtain ⟨a, ns, rfl, hs, q⟩ := h
  rw [Vals.ref1 r]
  obtain ⟨its, rv, ⟨o, ho, hc, n, hd⟩, hz⟩ := I.tuple hs
  have hzl : its.length ≤ sizeLine := by rw [← rv.length]; exact hz
  have ev := each_int rv
  refine Calls.call_function_entry kind_sorted plain_sorted entry_sorted (args_sorted1 _) ?_
  unfold Builtin.«sorted»
  refine wpAny_bind (m := checkCount "sorted" 1 1 _) (wpAny_pure ?_)
  refine wpAny_bind (wpAny_collect_seq a (.inr rfl) ho hc hd (fun h' kp => ?_) (by rw [List.size_toArray]; exact hzl))
  have I1 : Inv X pins σ H { s with heap := h' } := I.kept (t' := s.toks) kp
  simp only [List.toList_toArray]
  refine wpAny_bind (wpAny_newList ?_ hzl)
  have hoL : (h'.push (seqObj "list" its.toArray 0)).get? h'.objs.size = some (seqObj "list" its.toArray 0) := Heap.get?_push_size _ rfl
  refine wpAny_bind (wpAny_holding (PySem.W.list_sort_data (R := fun v (n : Int) => ∃ t, v = Value.int n t) (enc := PyData.int) (bs := ns) hoL ev (ev.mono fun v b h => by obtain ⟨t, rfl⟩ := h; exact ⟨[], .int b t, by simp⟩) (PySem.W.AllAlike.of fun _ _ => by simp [PySem.W.alike]) (PySem.W.Sortable.others fun b => ⟨nofun, nofun⟩) (by rw [List.length_map] at hz; exact hz) (fun b _ => by simp only [Around.in1_units, PyData.depth]; omega) fun out ol eo => ?_))
  obtain ⟨c, hc⟩ := sortedHeap_at (vs := its) (out := out.toArray) hoL
  refine wpAny_pure ⟨_, rfl, ?_⟩
  have hv := int_each eo
  have hlen : ((ns.mergeSort (PySem.W.dataLe false PyData.int)).map V.int).length ≤ sizeLine := by
    rw [List.length_map, List.length_mergeSort]
    rw [List.length_map] at hz
    exact hz
  refine ⟨.ref h'.objs.size, upd H h'.objs.size (.lst ((ns.mergeSort (PySem.W.dataLe false PyData.int)).map V.int)), I1.laid (t' := s.toks) (fun b u e => ?_) (Nat.le_refl _) ⟨hlen, out, c, hv, hc⟩, rfl, q _ _ (List.mergeSort_perm ns _) ?_ (I1.hok.fresh (Nat.le_refl _))⟩
  · have hlt := Heap.lt_size e
    show (sortedHeap (h'.push (seqObj "list" its.toArray 0)) h'.objs.size its out.toArray).get? b = some u
    rw [sortedHeap_old (Nat.ne_of_lt hlt) (by rw [size_push']; exact Nat.lt_succ_of_lt hlt)]
    exact Heap.get?_push_of_some _ e
  · have hle : PySem.W.dataLe false PyData.int = fun a b : Int => decide (a ≤ b) := PySem.W.dataLe_int (fun b : Int => b)
    rw [hle]
    have := List.pairwise_mergeSort (le := fun a b : Int => decide (a ≤ b)) (fun x y z h1 h2 => by simp only [decide_eq_true_eq] at *; omega) (fun x y => by simp only [Bool.or_eq_true, decide_eq_true_eq]; omega) ns
    exact this.imp fun h => by simpa using h
/-! t > u -/
theorem lexAt_ltI : ∀ (ns ms : List Int) (i : Nat) (e r : Nat → Bool), (∀ j, e (i + j) = decide (ns.getD j 0 = ms.getD j 0)) → (∀ j, r (i + j) = decide (ms.getD j 0 < ns.getD j 0)) →
    Ob.lexAt e r (decide (ns.length > ms.length)) i (min ns.length ms.length) = ltI ms ns
  | [], [], i, e, r, _, _ => by simp [Ob.lexAt_zero, ltI]
  | [], _ :: _, i, e, r, _, _ => by simp [Ob.lexAt_zero, ltI]
  | _ :: _, [], i, e, r, _, _ => by simp [Ob.lexAt_zero, ltI]
  | n :: ns, m :: ms, i, e, r, he, hr => by
    have e0 := he 0
    have r0 := hr 0
    simp at e0 r0
    have ih := lexAt_ltI ns ms (i + 1) e r (fun j => by
      have := he (j + 1)
      rw [show i + (j + 1) = i + 1 + j by omega] at this
      rw [this]
      simp) (fun j => by
      have := hr (j + 1)
      rw [show i + (j + 1) = i + 1 + j by omega] at this
      rw [this]
      simp)
    have hd : decide ((n :: ns).length > (m :: ms).length) = decide (ns.length > ms.length) := by
      congr 1
      simp
    rw [hd, show min (n :: ns).length (m :: ms).length = min ns.length ms.length + 1 by simp, Ob.lexAt_succ, ih, e0, r0, ltI]
    by_cases h : n = m
    · subst h
      simp
    · have h' : ¬ m = n := fun z => h z.symm
      simp [h, h']
def rGtT (K : PySem.W.Frag) : R2 := fun x y H Q => ∃ (a b : Addr) (ns ms : List Int), x = .ref a ∧ y = .ref b ∧ SqT K H a (ns.map V.int) ∧ SqT K H b (ms.map V.int) ∧ Q (.bl (ltI ms ns)) H
theorem op_gtT (hu : X.A.units < cLine) : OpR X (compareOp .Gt) (rGtT X.K) := by
  intro pins s σ H x y v u Q I rx ry h
  obtain ⟨a, b, ns, ms, rfl, rfl, ha, hb, q⟩ := h
  cases rx
  cases ry
  obtain ⟨its, r1, p1, _⟩ := I.tuple ha
  obtain ⟨its2, r2, p2, _⟩ := I.tuple hb
  have i1 : IntsAre its ns := Vals.ints r1
  have i2 : IntsAre its2 ms := Vals.ints r2
  have e1 : its.toArray.size = ns.length := by rw [List.size_toArray]; exact i1.length
  have e2 : its2.toArray.size = ms.length := by rw [List.size_toArray]; exact i2.length
  have at1 : ∀ j (h1 : j < its.toArray.size), ∃ t, its.toArray[j] = .int (ns.getD j 0) t := fun j h1 => PyProof.Rows.IntsAre.int_at i1 _ _ (by simp at h1; simp [h1])
  have at2 : ∀ j (h1 : j < its2.toArray.size), ∃ t, its2.toArray[j] = .int (ms.getD j 0) t := fun j h1 => PyProof.Rows.IntsAre.int_at i2 _ _ (by simp at h1; simp [h1])
  have R := Ob.RcOp.tuples_gt (A := X.A) (s := s) (e := fun j => decide (ns.getD j 0 = ms.getD j 0)) (r := fun j => decide (ms.getD j 0 < ns.getD j 0)) p1 p2 hu (fun j h1 h2 => by
    obtain ⟨t, et⟩ := at1 j h1
    obtain ⟨t', et'⟩ := at2 j h2
    rw [et, et']
    have z : (ns.getD j 0 == ms.getD j 0) = decide (ns.getD j 0 = ms.getD j 0) := by
      by_cases q : ns.getD j 0 = ms.getD j 0
      · rw [decide_eq_true q]; exact beq_iff_eq.mpr q
      · rw [decide_eq_false q]; exact beq_eq_false_iff_ne.mpr q
    rw [← z]
    exact SeqAt.EqAt.int_int _ _ _ _) (fun j h1 h2 _ => by
    obtain ⟨t, et⟩ := at1 j h1
    obtain ⟨t', et'⟩ := at2 j h2
    rw [et, et']
    exact Ob.RcOp.gt_int _ _ _ _)
  rw [e1, e2, lexAt_ltI ns ms 0 _ _ (fun j => by simp) (fun j => by simp)] at R
  have z : wpAny (model X.prog X.w) X.A (compareOp .Gt (.ref a) (.ref b)) (EP X pins σ Q) X.xe s := R X.prog X.w X.xe (EP X pins σ Q) ⟨.bl _, H, I, rfl, q⟩
  exact z
theorem toInts_repT {K : PySem.W.Frag} {H : Hp} : ∀ {l : List D} {ns : List Int} {vs : List V}, toInts l = some ns → Reps K H l vs → vs = ns.map V.int
  | [], ns, vs, h, r => by
    cases h
    exact r
  | d :: l, ns, vs, h, r => by
    cases d <;> try (cases h)
    rename_i i
    simp only [toInts] at h
    cases e : toInts l with
    | none => rw [e] at h; cases h
    | some ms =>
      rw [e] at h
      cases h
      obtain ⟨v, w, rfl, h1, h2⟩ := r
      rw [toInts_repT e h2]
      cases (show v = .int i from h1)
      rfl
theorem ob_gtT (hu : X.A.units < cLine) : Ob X (compareOp .Gt) .gtT := by
  refine opr_weak (op_gtT hu) fun x y H Q h => ?_
  obtain ⟨ds, r, hq, ho, q⟩ := h
  obtain ⟨d, e, rfl, h1, h2⟩ := qs2 hq
  cases d <;> cases e <;> simp only [opD, o_gtT] at ho <;> try cases ho
  rename_i l m
  cases e1 : toInts l with
  | none => rw [e1] at ho; cases ho
  | some ns =>
    cases e2 : toInts m with
    | none => rw [e1, e2] at ho; cases ho
    | some ms =>
      rw [e1, e2] at ho
      cases ho
      obtain ⟨a, vs, rfl, s1, r1⟩ := h1.tup
      obtain ⟨b, ws, rfl, s2, r2⟩ := h2.tup
      have q1 := s1.sq
      have q2 := s2.sq
      rw [toInts_repT e1 r1] at q1
      rw [toInts_repT e2 r2] at q2
      exact ⟨a, b, ns, ms, rfl, rfl, q1, q2, flatR q rfl rfl⟩
/-! xs * 0, xs * 1 -/
theorem op_repL : OpR X (binaryOp .Mult) (fun x y H Q => ∃ l k xs, x = .ref l ∧ y = .int k ∧ Rd H l (.lst xs) ∧ -(2 ^ 63) ≤ k ∧ k < 2 ^ 63 ∧ xs.length * k.toNat ≤ sizeLine ∧
  ∀ p, H p = none → Q (.ref p) (upd H p (.lst (List.replicate k.toNat xs).flatten))) := by
  intro pins s σ H x y v u Q I rx ry h
  obtain ⟨l, k, xs, rfl, rfl, hH, h1, h2, hz, q⟩ := h
  cases rx
  obtain ⟨t, rfl⟩ := ry
  obtain ⟨z, its, n, r, hl, e⟩ := lst_rd I hH
  have hlen : its.toArray.size * k.toNat ≤ sizeLine := by rw [List.size_toArray, ← hl]; exact hz
  have hcap : ¬ its.toArray.size * k.toNat > (2 ^ 63 - 1) / 8 := by
    have : (sizeLine : Nat) ≤ (2 ^ 63 - 1) / 8 := by decide
    omega
  have hfit : ¬ (!Builtin.List.listFitsIndex k) = true := by
    rw [fitsIndex_both h1 h2]
    exact Bool.false_ne_true
  have hlong : ¬ Builtin.List.listTooLong (its.toArray.size * k.toNat) = true := by
    rw [notLongL hlen]
    exact Bool.false_ne_true
  have hnew : List.foldl (fun x1 x2 => x1 ++ x2) #[] (List.replicate (if its.toArray.isEmpty = true then 0 else k.toNat) its.toArray) = (List.replicate k.toNat its).flatten.toArray := by
    have f0 : ∀ m : Nat, List.foldl (fun x1 x2 => x1 ++ x2) #[] (List.replicate m its.toArray) = (List.replicate m its).flatten.toArray := fun m => by
      have := foldl_rep its m []
      rw [List.nil_append] at this
      exact this
    rw [f0]
    cases its with
    | nil => simp
    | cons a r' => rw [if_neg (by simp)]
  refine wpAny_binaryOp_repeat_ref (T := "list") (U := "int") (by decide) ⟨_, e, rfl⟩ (fun s' => typeIs_int s' k t) noFill_list_mul F.fills_int_mul F.slot_int_rmul repeat_list F.slot_int_index.lookup
    (call_meets F.slot_int_rmul (typeIs_int s k t) F.entry_int_rmul (F.args_int_rmul_2 _ _) (int___rmul___int_list k t l its.toArray n)
      ⟨e, rfl, ⟨_, e, rfl⟩, call_meets F.slot_list_mul ⟨_, e, rfl⟩ F.entry_list_mul (F.args_list_mul_2 _ _) (AutoListH.list___mul___list_int_3 l its.toArray n k t hfit hcap hlong) ⟨e, ?_⟩⟩)
  rw [hnew]
  exact ⟨.ref _, _, I.lnew (t' := s.toks) (r.rep k.toNat) (by rw [PyProof.Rows.lm_len_rep_flat, Nat.mul_comm]; exact hz), rfl, q _ I.fresh⟩
theorem ob_mulL : Ob X (binaryOp .Mult) .mulL := by
  refine opr_weak op_repL fun x y H Q h => ?_
  obtain ⟨ds, r, hq, ho, q⟩ := h
  obtain ⟨d, e, rfl, h1, h2⟩ := qs2 hq
  cases d <;> cases e <;> simp only [opD, o_mulL] at ho <;> try cases ho
  rename_i l n
  split at ho
  · rename_i hn
    cases ho
    simp only [Bool.and_eq_true, decide_eq_true_eq] at hn
    obtain ⟨a, vs, rfl, s1, r1⟩ := h1.lst
    cases h2.int
    have hs := small_lt hn.2
    have hl := r1.len
    have hz : vs.length ≤ sizeLine := by omega
    rcases (by omega : n = 0 ∨ n = 1) with rfl | rfl
    · refine ⟨a, 0, vs, rfl, rfl, s1, by omega, by omega, by simp, fun p np => ?_⟩
      exact newL q (show Reps X.K H [] _ from rfl) np
    · refine ⟨a, 1, vs, rfl, rfl, s1, by omega, by omega, by simpa using hz, fun p np => ?_⟩
      have e : (List.replicate (1 : Int).toNat vs).flatten = vs := by simp
      rw [e]
      exact newL q r1 np
  · cases ho

/-! t.index(k), a number that is there -/
theorem PlT.isT {pins : List (Addr × Obj)} {σ : L2.St} {H : Hp} {s : Shared} {a : Addr} {vs : List V} (I : Inv X pins σ H s) (h : PlT X.K H a vs) : s.TypeIs (.ref a) "tuple" ∧ ∀ b, Value.ref a = .ref b → ∃ ob, s.heap.get? b = some ob ∧ ob.dict = none := by
  rcases h with ⟨o, h, hd⟩ | ⟨o, its, n, hk, hc, hd, _⟩
  · obtain ⟨e, _, _, _, p⟩ := I.hok a _ h
    obtain ⟨o', e', hc, _⟩ := p
    rw [e] at e'
    cases e'
    exact ⟨⟨o, e, hc⟩, fun b q => by cases q; exact ⟨o, e, hd⟩⟩
  · exact ⟨⟨o, I.kIn a o hk, hc⟩, fun b q => by cases q; exact ⟨o, I.kIn _ o hk, hd⟩⟩
def tTIdx (K : PySem.W.Frag) (td ty : TE) : TE := fun σ H Q => td σ H fun x H1 => ∃ a vs, x = .ref a ∧ PlT K H1 a vs ∧ ty σ H1 fun y H2 => ∃ (ns : List Int) (k : Int), y = .int k ∧ SqT K H2 a (ns.map V.int) ∧ k ∈ ns ∧ Q (.int (ns.idxOf k : Nat)) H2
theorem pe_tidx {o e : Expr} {apos cpos : Pos} {td ty : TE} (ho : PE X o td) (he : PE X e ty) (m : M1 X o "index" apos e cpos) : PE X (.Call (.Attribute o "index" apos) [e] [] cpos) (tTIdx X.K td ty) := by
  refine ⟨fun pins s σ H Q I h => ?_⟩
  refine wpAny_Call_method m.base m.few m.line PySem.F.plainAttrs_tuple PySem.F.slot_tuple_index PySem.F.type_tuple_index (thn (ho.run pins s σ H _ I h) fun u s1 ⟨x, H1, I1, rx, a, vs, ex, d, q1⟩ => ?_)
  subst ex
  obtain rfl : u = Value.ref a := rx
  obtain ⟨t1, t2⟩ := d.isT I1
  refine ⟨t1, t2, ?_⟩
  rw [m.trees]
  refine Calls.callWith_builtin rfl (Calls.evalArgs_plain (Calls.spliced_cons (thn (he.run pins s1 σ H1 _ I1 q1) fun iv s2 ⟨y, H2, I2, ry, ns, k, ey, ht, hk, q2⟩ => Calls.spliced_nil ?_)))
  subst ey
  obtain ⟨t, rfl⟩ := ry
  obtain ⟨its, r1, p1, _⟩ := I2.tuple ht
  exact PySem.SeqAt.tuple_index_ints p1 (Vals.ints r1) hk ⟨.int _, H2, I2.tok _, ⟨_, rfl⟩, q2⟩
end
end Pv
end
section
/-! PvE: the built-in functions of the language over HandS' rules. -/
namespace Pv
open PySem PySem.Spec PyProof.Rows L2

/-! ### insertion sorts -/
theorem insI_perm (a : Int) : ∀ l, (insI a l).Perm (a :: l)
  | [] => .refl _
  | b :: r => by
    unfold insI
    split
    · exact (List.Perm.cons b (insI_perm a r)).trans (.swap _ _ _)
    · exact .refl _
theorem sortI_perm : ∀ l, (sortI l).Perm l
  | [] => .refl _
  | a :: r => (insI_perm a _).trans (.cons a (sortI_perm r))
theorem insI_mem {a x : Int} {l : List Int} (h : x ∈ insI a l) : x = a ∨ x ∈ l := by
  have := (insI_perm a l).mem_iff.mp h
  simpa using this
theorem insI_sorted (a : Int) : ∀ l : List Int, l.Pairwise (· ≤ ·) → (insI a l).Pairwise (· ≤ ·)
  | [], _ => by simp [insI]
  | b :: r, h => by
    have hb := List.pairwise_cons.mp h
    unfold insI
    split
    · rename_i hlt
      refine List.pairwise_cons.mpr ⟨fun x hx => ?_, insI_sorted a r hb.2⟩
      rcases insI_mem hx with e | e
      · omega
      · exact hb.1 x e
    · rename_i hge
      refine List.pairwise_cons.mpr ⟨fun x hx => ?_, h⟩
      rcases List.mem_cons.mp hx with e | e
      · omega
      · have := hb.1 x e; omega
theorem sortI_sorted : ∀ l : List Int, (sortI l).Pairwise (· ≤ ·)
  | [] => List.Pairwise.nil
  | a :: r => insI_sorted a _ (sortI_sorted r)
theorem sortI_unique {l m : List Int} (p : m.Perm l) (h : m.Pairwise (· ≤ ·)) : m = sortI l :=
  List.Perm.eq_of_pairwise (fun a b _ _ h1 h2 => Int.le_antisymm h1 h2) h (sortI_sorted l) (p.trans (sortI_perm l).symm)

theorem ltL_irr : ∀ a, ltL a a = false
  | [] => rfl
  | a :: l => by simp [ltL, ltL_irr l]
theorem ltL_tr : ∀ a b c, ltL a b = true → ltL b c = true → ltL a c = true := by
  intro a b c h1 h2
  rw [ltL_lt, decide_eq_true_eq] at *
  exact List.lt_trans h1 h2
theorem ltL_tot : ∀ a b, ltL a b = false → ltL b a = false → a = b := by
  intro a b h1 h2
  rw [ltL_lt, decide_eq_false_iff_not] at h1 h2
  exact List.le_antisymm h2 h1
abbrev leS (a b : List Nat) : Prop := ltL b a = false
theorem leS_trans {a b c : List Nat} (h1 : leS a b) (h2 : leS b c) : leS a c := by
  cases h : ltL c a with
  | false => exact h
  | true =>
    cases h3 : ltL a b with
    | true => rw [show leS b c = (ltL c b = false) from rfl, ltL_tr c a b h h3] at h2; cases h2
    | false =>
      have := ltL_tot a b h3 h1
      subst this
      rw [show leS a c = (ltL c a = false) from rfl] at h2
      rw [h] at h2; cases h2
theorem leS_of_lt {a b : List Nat} (h : ltL a b = true) : leS a b := by
  cases h2 : ltL b a with
  | false => exact h2
  | true => have := ltL_tr a b a h h2; rw [ltL_irr] at this; cases this
theorem insS_perm (a : List Nat) : ∀ l, (insS a l).Perm (a :: l)
  | [] => .refl _
  | b :: r => by
    unfold insS
    split
    · exact (List.Perm.cons b (insS_perm a r)).trans (.swap _ _ _)
    · exact .refl _
theorem sortS_perm : ∀ l, (sortS l).Perm l
  | [] => .refl _
  | a :: r => (insS_perm a _).trans (.cons a (sortS_perm r))
theorem insS_sorted (a : List Nat) : ∀ l : List (List Nat), l.Pairwise leS → (insS a l).Pairwise leS
  | [], _ => by simp [insS]
  | b :: r, h => by
    have hb := List.pairwise_cons.mp h
    unfold insS
    split
    · rename_i hlt
      refine List.pairwise_cons.mpr ⟨fun x hx => ?_, insS_sorted a r hb.2⟩
      have := (insS_perm a r).mem_iff.mp hx
      rcases List.mem_cons.mp this with e | e
      · rw [e]; exact leS_of_lt hlt
      · exact hb.1 x e
    · rename_i hge
      have hab : leS a b := by simpa using hge
      refine List.pairwise_cons.mpr ⟨fun x hx => ?_, h⟩
      rcases List.mem_cons.mp hx with e | e
      · rw [e]; exact hab
      · exact leS_trans hab (hb.1 x e)
theorem sortS_sorted : ∀ l : List (List Nat), (sortS l).Pairwise leS
  | [] => List.Pairwise.nil
  | a :: r => insS_sorted a _ (sortS_sorted r)
theorem sortS_unique {l m : List (List Nat)} (p : m.Perm l) (h : m.Pairwise leS) : m = sortS l :=
  List.Perm.eq_of_pairwise (fun a b _ _ h1 h2 => ltL_tot a b h2 h1) h (sortS_sorted l) (p.trans (sortS_perm l).symm)
theorem ltCps_eq : ∀ a b, ltCps a b = ltL a b
  | [], [] => rfl
  | [], _ :: _ => rfl
  | _ :: _, [] => rfl
  | a :: l, b :: m => by simp only [ltCps, ltL, ltCps_eq l m]
theorem rising_pairwise : ∀ (r : List Str) (p : Str), risingS p r = true → (p :: r).Pairwise (fun a b => leS a.cps.toList b.cps.toList)
  | [], p, _ => by simp
  | x :: r, p, h => by
    unfold risingS at h
    have h1 : ltCps x.cps.toList p.cps.toList = false := by
      cases z : ltCps x.cps.toList p.cps.toList with
      | false => rfl
      | true => simp [z] at h
    have h2 : risingS x r = true := by simpa [h1] using h
    rw [ltCps_eq] at h1
    have ih := rising_pairwise r x h2
    refine List.pairwise_cons.mpr ⟨fun y hy => ?_, ih⟩
    rcases List.mem_cons.mp hy with e | e
    · rw [e]; exact h1
    · exact leS_trans h1 ((List.pairwise_cons.mp ih).1 y e)
theorem sortedS_pairwise : ∀ {l : List Str}, sortedS l = true → (l.map fun x => x.cps.toList).Pairwise leS
  | [], _ => by simp
  | p :: r, h => by
    have := rising_pairwise r p h
    rw [List.pairwise_map]
    exact this
theorem map_st (l : List Str) : (l.map fun x => x.cps.toList).map st = l := by
  rw [List.map_map]
  have : (st ∘ fun x : Str => x.cps.toList) = id := by
    funext x
    cases x
    simp [st]
  rw [this, List.map_id]
theorem sortedS_unique {ss : List (List Nat)} {ys : List Str} (p : ys.Perm (ss.map st)) (h : sortedS ys = true) : ys = (sortS ss).map st := by
  have e : (ys.map fun x => x.cps.toList) = sortS ss := by
    refine sortS_unique ?_ (sortedS_pairwise h)
    have := p.map fun x => x.cps.toList
    rw [List.map_map] at this
    have e2 : ((fun x : Str => x.cps.toList) ∘ st) = id := by funext x; simp [st]
    rw [e2, List.map_id] at this
    exact this
  rw [← e, map_st]

/-! ### rows of one kind -/
section
variable {K : PySem.W.Frag} {H : Hp}
theorem toInts_rep : ∀ {l : List D} {ns : List Int} {vs : List V}, toInts l = some ns → Reps K H l vs → vs = ns.map V.int ∧ l = ns.map D.int
  | [], ns, vs, h, r => by
    cases h
    exact ⟨r, rfl⟩
  | d :: l, ns, vs, h, r => by
    cases d <;> try (cases h)
    rename_i i
    simp only [toInts] at h
    cases e : toInts l with
    | none => rw [e] at h; cases h
    | some ms =>
      rw [e] at h
      cases h
      obtain ⟨v, w, rfl, h1, h2⟩ := r
      obtain ⟨rfl, rfl⟩ := toInts_rep e h2
      cases (show v = .int i from h1)
      exact ⟨rfl, rfl⟩
theorem toStrs_rep : ∀ {l : List D} {ns : List (List Nat)} {vs : List V}, toStrs l = some ns → Reps K H l vs → vs = (ns.map st).map V.str ∧ l = ns.map D.str
  | [], ns, vs, h, r => by
    cases h
    exact ⟨r, rfl⟩
  | d :: l, ns, vs, h, r => by
    cases d <;> try (cases h)
    rename_i i
    simp only [toStrs] at h
    cases e : toStrs l with
    | none => rw [e] at h; cases h
    | some ms =>
      rw [e] at h
      cases h
      obtain ⟨v, w, rfl, h1, h2⟩ := r
      obtain ⟨rfl, rfl⟩ := toStrs_rep e h2
      cases (show v = .str (st i) from h1)
      exact ⟨rfl, rfl⟩
theorem toBools_rep : ∀ {l : List D} {ns : List Bool} {vs : List V}, toBools l = some ns → Reps K H l vs → vs = ns.map V.bl
  | [], ns, vs, h, r => by
    cases h
    exact r
  | d :: l, ns, vs, h, r => by
    cases d <;> try (cases h)
    rename_i i
    simp only [toBools] at h
    cases e : toBools l with
    | none => rw [e] at h; cases h
    | some ms =>
      rw [e] at h
      cases h
      obtain ⟨v, w, rfl, h1, h2⟩ := r
      cases (show v = .bl i from h1)
      rw [toBools_rep e h2]
      rfl
theorem reps_ints : ∀ ns : List Int, Reps K H (ns.map D.int) (ns.map V.int)
  | [] => rfl
  | i :: ns => ⟨.int i, ns.map V.int, rfl, rfl, reps_ints ns⟩
theorem reps_strs : ∀ ns : List (List Nat), Reps K H (ns.map D.str) ((ns.map st).map V.str)
  | [] => rfl
  | i :: ns => ⟨.str (st i), (ns.map st).map V.str, rfl, rfl, reps_strs ns⟩
theorem maxI_spec : ∀ {l : List Int} {m : Int}, maxI l = some m → m ∈ l ∧ ∀ y ∈ l, y ≤ m
  | [], _, h => by cases h
  | a :: r, m, h => by
    unfold maxI at h
    cases e : maxI r with
    | none =>
      rw [e] at h
      cases h
      have : r = [] := by
        cases r with
        | nil => rfl
        | cons b r => unfold maxI at e; split at e <;> cases e
      subst this
      simp
    | some b =>
      rw [e] at h
      obtain ⟨h1, h2⟩ := maxI_spec e
      simp only [Option.some.injEq] at h
      split at h
      · subst h
        exact ⟨List.mem_cons_of_mem _ h1, fun y hy => by rcases List.mem_cons.mp hy with q | q; · omega
                                                         · exact h2 y q⟩
      · subst h
        refine ⟨List.mem_cons_self, fun y hy => ?_⟩
        rcases List.mem_cons.mp hy with q | q
        · omega
        · have := h2 y q; omega
theorem minI_spec : ∀ {l : List Int} {m : Int}, minI l = some m → m ∈ l ∧ ∀ y ∈ l, m ≤ y
  | [], _, h => by cases h
  | a :: r, m, h => by
    unfold minI at h
    cases e : minI r with
    | none =>
      rw [e] at h
      cases h
      have : r = [] := by
        cases r with
        | nil => rfl
        | cons b r => unfold minI at e; split at e <;> cases e
      subst this
      simp
    | some b =>
      rw [e] at h
      obtain ⟨h1, h2⟩ := minI_spec e
      simp only [Option.some.injEq] at h
      split at h
      · subst h
        refine ⟨List.mem_cons_of_mem _ h1, fun y hy => ?_⟩
        rcases List.mem_cons.mp hy with q | q
        · omega
        · exact h2 y q
      · subst h
        refine ⟨List.mem_cons_self, fun y hy => ?_⟩
        rcases List.mem_cons.mp hy with q | q
        · omega
        · have := h2 y q; omega
end

section
variable {X : Cx}
/-- a call with its arguments, over data -/
abbrev Cb (X : Cx) (f : Value) (o : Op) : Prop := CallR X f fun xs H Q => OpW X.K o xs H Q
/-- one argument -/
theorem cb1 {f : Value} {o : Op} {r : List V → Hp → VK → Prop} (h : CallR X f r) (inv : ∀ ds x, opD o ds = some x → ds.length = 1)
    (w : ∀ d x v H Q, opD o [d] = some x → RepQ X.K H d v → (∀ v H', (∀ a u, H a = some u → H' a = some u) → (x.own = true → ∃ a, v = .ref a ∧ H a = none) → RepR X.K H' x v → Q v H') → r [v] H Q) : Cb X f o := by
  refine callr_weak h fun xs H Q q => ?_
  obtain ⟨ds, x, hq, ho, q⟩ := q
  have hl := inv _ _ ho
  match ds, hl with
  | [d], _ =>
    obtain ⟨v, rr, rfl, h1, h2⟩ := hq
    cases (show rr = [] from h2)
    exact w d x v H Q ho h1 q
theorem call_lenR : CallR X (.builtin "len") (fun xs H Q => ∃ a kvs, xs = [V.ref a] ∧ Rd H a (.dK kvs) ∧ Q (.int kvs.length) H) := by
  intro pins s σ H xs us Q I r h
  obtain ⟨a, kvs, rfl, ha, q⟩ := h
  obtain ⟨u, rfl, ru⟩ := vals1 r
  cases ru
  exact d_len I ha fun t s' I' => ⟨.int kvs.length, H, I', ⟨t, rfl⟩, q⟩
theorem callr_or {f : Value} {r r' : List V → Hp → VK → Prop} (h : CallR X f r) (h' : CallR X f r') : CallR X f (fun xs H Q => r xs H Q ∨ r' xs H Q) := fun pins s σ H xs us Q I rx q =>
  q.elim (fun q => h pins s σ H xs us Q I rx q) fun q => h' pins s σ H xs us Q I rx q
theorem one_of {o : List D → Option R} {ds : List D} {x : R} (h : o ds = some x) (h0 : o [] = none) (h2 : ∀ a b r, o (a :: b :: r) = none) : ds.length = 1 := by
  match ds, h with
  | [], h => rw [h0] at h; cases h
  | [_], _ => rfl
  | a :: b :: r, h => rw [h2] at h; cases h
theorem cb_len : Cb X (.builtin "len") .len := by
  refine cb1 (callr_or call_len_seq (callr_or call_len_str call_lenR)) (fun ds x h => one_of (o := o_len) h rfl fun a b r => by cases a <;> rfl) fun d x v H Q ho h q => ?_
  cases d <;> simp only [opD, o_len] at ho <;> try (cases ho)
  · split at ho
    · rename_i hs
      cases ho
      cases h.str
      refine .inr (.inl ⟨_, rfl, by rw [st_len]; exact Nat.le_of_lt (small_lt hs), ?_⟩)
      rw [st_len]
      exact flatR q rfl rfl
    · cases ho
  · obtain ⟨a, vs, rfl, s1, r1⟩ := h.tup
    refine .inl ⟨a, vs, rfl, .inr s1.sq, ?_⟩
    rw [← r1.len]
    exact flatR q rfl rfl
  · obtain ⟨a, vs, rfl, s1, r1⟩ := h.lst
    refine .inl ⟨a, vs, rfl, .inl (.inl s1), ?_⟩
    rw [← r1.len]
    exact flatR q rfl rfl
  · obtain ⟨a, u, kvs, rfl, s1, o1, r1⟩ := h.dic
    obtain ⟨ks, rfl, rfl⟩ := dk_of o1
    refine .inr (.inr ⟨a, ks, rfl, s1, ?_⟩)
    have := r1.len
    rw [List.length_map] at this
    rw [← this]
    exact flatR q rfl rfl
theorem cb_abs : Cb X (.builtin "abs") .abs := by
  refine cb1 call_abs (fun ds x h => one_of (o := o_abs) h rfl fun a b r => by cases a <;> rfl) fun d x v H Q ho h q => ?_
  cases d <;> simp only [opD, o_abs] at ho <;> cases ho
  cases h.int
  refine ⟨_, rfl, ?_⟩
  rename_i i
  have e : (if i < 0 then -i else i) = (i.natAbs : Int) := by split <;> omega
  rw [e]
  exact flatR q rfl rfl
theorem cb2 {f : Value} {o : Op} {g : Int → Int → Int} (h : CallR X f (fun xs H Q => ∃ i j, xs = [.int i, .int j] ∧ Q (.int (g i j)) H)) (inv : ∀ ds x, opD o ds = some x → ∃ i j, ds = [.int i, .int j] ∧ x = .v (.int (g i j))) : Cb X f o := by
  refine callr_weak h fun xs H Q q => ?_
  obtain ⟨ds, x, hq, ho, q⟩ := q
  obtain ⟨i, j, rfl, rfl⟩ := inv _ _ ho
  obtain ⟨v, rr, rfl, h1, w, rr2, rfl, h2, h3⟩ := hq
  cases (show rr2 = [] from h3)
  cases h1.int
  cases h2.int
  exact ⟨i, j, rfl, flatR q rfl rfl⟩
theorem cb_max (hc : X.calm = true) : Cb X (.builtin "max") .max := cb2 (call_max2 hc) fun ds x h => by
  simp only [opD] at h
  unfold o_max at h
  split at h
  · cases h; exact ⟨_, _, rfl, rfl⟩
  · cases h
theorem cb_min (hc : X.calm = true) : Cb X (.builtin "min") .min := cb2 (call_min2 hc) fun ds x h => by
  simp only [opD] at h
  unfold o_min at h
  split at h
  · cases h; exact ⟨_, _, rfl, rfl⟩
  · cases h
theorem cb_maxL (hc : X.calm = true) : Cb X (.builtin "max") .maxL := by
  refine cb1 (cr_max hc) (fun ds x h => one_of (o := o_maxL) h rfl fun a b r => by cases a <;> rfl) fun d x v H Q ho h q => ?_
  cases d <;> simp only [opD, o_maxL] at ho <;> try (cases ho)
  rename_i l
  obtain ⟨a, vs, rfl, s1, r1⟩ := h.lst
  cases e : toInts l with
  | none => rw [e] at ho; cases ho
  | some ns =>
    rw [e] at ho
    simp only [Option.bind_some] at ho
    cases e2 : maxI ns with
    | none => rw [e2] at ho; cases ho
    | some m =>
      rw [e2] at ho
      cases ho
      obtain ⟨rfl, rfl⟩ := toInts_rep e r1
      obtain ⟨m1, m2⟩ := maxI_spec e2
      refine ⟨a, ns, rfl, .inl s1, List.length_pos_of_mem m1, fun k k1 k2 => ?_⟩
      have : k = m := Int.le_antisymm (m2 k k1) (k2 m m1)
      rw [this]
      exact flatR q rfl rfl
theorem cb_minL (hc : X.calm = true) : Cb X (.builtin "min") .minL := by
  refine cb1 (cr_min hc) (fun ds x h => one_of (o := o_minL) h rfl fun a b r => by cases a <;> rfl) fun d x v H Q ho h q => ?_
  cases d <;> simp only [opD, o_minL] at ho <;> try (cases ho)
  rename_i l
  obtain ⟨a, vs, rfl, s1, r1⟩ := h.lst
  cases e : toInts l with
  | none => rw [e] at ho; cases ho
  | some ns =>
    rw [e] at ho
    simp only [Option.bind_some] at ho
    cases e2 : minI ns with
    | none => rw [e2] at ho; cases ho
    | some m =>
      rw [e2] at ho
      cases ho
      obtain ⟨rfl, rfl⟩ := toInts_rep e r1
      obtain ⟨m1, m2⟩ := minI_spec e2
      refine ⟨a, ns, rfl, .inl s1, List.length_pos_of_mem m1, fun k k1 k2 => ?_⟩
      have : k = m := Int.le_antisymm (k2 m m1) (m2 k k1)
      rw [this]
      exact flatR q rfl rfl
theorem cb_sum (hc : X.calm = true) : Cb X (.builtin "sum") .sum := by
  refine cb1 (cr_sum hc) (fun ds x h => one_of (o := o_sum) h rfl fun a b r => by cases a <;> rfl) fun d x v H Q ho h q => ?_
  cases d <;> simp only [opD, o_sum] at ho <;> try (cases ho)
  rename_i l
  obtain ⟨a, vs, rfl, s1, r1⟩ := h.lst
  cases e : toInts l with
  | none => rw [e] at ho; cases ho
  | some ns =>
    rw [e] at ho
    cases ho
    obtain ⟨rfl, rfl⟩ := toInts_rep e r1
    exact ⟨a, ns, rfl, .inl s1, flatR q rfl rfl⟩
theorem cb_all (hc : X.calm = true) : Cb X (.builtin "all") .all := by
  refine cb1 (cr_all hc) (fun ds x h => one_of (o := o_all) h rfl fun a b r => by cases a <;> rfl) fun d x v H Q ho h q => ?_
  cases d <;> simp only [opD, o_all] at ho <;> try (cases ho)
  rename_i l
  obtain ⟨a, vs, rfl, s1, r1⟩ := h.lst
  cases e : toBools l with
  | none => rw [e] at ho; cases ho
  | some ns =>
    rw [e] at ho
    cases ho
    cases toBools_rep e r1
    exact ⟨a, ns, rfl, .inl s1, flatR q rfl rfl⟩
theorem cb_any (hc : X.calm = true) : Cb X (.builtin "any") .any := by
  refine cb1 (cr_any hc) (fun ds x h => one_of (o := o_any) h rfl fun a b r => by cases a <;> rfl) fun d x v H Q ho h q => ?_
  cases d <;> simp only [opD, o_any] at ho <;> try (cases ho)
  rename_i l
  obtain ⟨a, vs, rfl, s1, r1⟩ := h.lst
  cases e : toBools l with
  | none => rw [e] at ho; cases ho
  | some ns =>
    rw [e] at ho
    cases ho
    cases toBools_rep e r1
    exact ⟨a, ns, rfl, .inl s1, flatR q rfl rfl⟩
/-- tuple(xs) -/
theorem call_tupleP : CallR X (.type "tuple") (fun xs H Q => ∃ p ys, xs = [.ref p] ∧ ((SqL X.K H p ys ∧ ∀ l o, H l = none → o.dict = none → Q (.ref l) (upd H l (.frz o (.tup ys)))) ∨ (SqT X.K H p ys ∧ Q (.ref p) H))) := by
  intro pins s σ H xs us Q I r h
  obtain ⟨p, ys, rfl, h⟩ := h
  rw [Vals.ref1 r]
  rcases h with ⟨hq, q⟩ | ⟨hq, q⟩
  · obtain ⟨its, r', pl, hz⟩ := I.list hq
    refine call_tuple_list pl.isList (fun h' kp => ?_) (by rw [List.size_toArray, ← r'.length]; exact hz)
    have I1 : Inv X pins σ H { s with heap := h' } := I.kept (t' := s.toks) kp
    exact ⟨.ref h'.objs.size, upd H h'.objs.size (.frz (tupO its.toArray) (.tup ys)), I1.laid (t' := s.toks) (fun b o e => Heap.get?_push_of_some _ e) (Nat.le_refl _) (tupO_ok hz r'), rfl, q _ _ (I1.hok.fresh (Nat.le_refl _)) rfl⟩
  · obtain ⟨its, r', pl, hz⟩ := I.tuple hq
    exact call_tuple_same pl ⟨.ref p, H, I, rfl, q⟩
theorem cb_tuple : Cb X (.type "tuple") .tupleOf := by
  refine cb1 call_tupleP (fun ds x h => one_of (o := o_tupleOf) h rfl fun a b r => by cases a <;> rfl) fun d x v H Q ho h q => ?_
  cases d <;> simp only [opD, o_tupleOf] at ho <;> cases ho
  · obtain ⟨a, vs, rfl, s1, r1⟩ := h.tup
    exact ⟨a, vs, rfl, .inr ⟨s1.sq, flatR q ⟨a, vs, rfl, s1, r1⟩ rfl⟩⟩
  · obtain ⟨a, vs, rfl, s1, r1⟩ := h.lst
    exact ⟨a, vs, rfl, .inl ⟨.inl s1, fun l o hl hd => newT q r1 hd hl⟩⟩
theorem keys_rep {K : PySem.W.Frag} {H : Hp} : ∀ {l : List (D × D)} {ks : List (Key × V)}, RepP K H l (ks.map fun p => (keyD p.1, p.2)) → Reps K H (l.map (·.1)) (ks.map fun kv => kV kv.1) ∧ l.map (·.1) = ks.map fun p => keyD p.1
  | [], ks, h => by
    have : ks = [] := by
      cases ks with
      | nil => rfl
      | cons p r => cases h
    subst this
    exact ⟨rfl, rfl⟩
  | (k, d) :: l, ks, h => by
    obtain ⟨v, r, e, h1, h2⟩ := h
    cases ks with
    | nil => cases e
    | cons p ks =>
      rw [List.map_cons] at e
      cases e
      obtain ⟨i1, i2⟩ := keys_rep h2
      refine ⟨⟨kV p.1, _, rfl, ?_, i1⟩, by simp only [List.map_cons, i2]⟩
      cases p.1 with
      | inl i => rfl
      | inr x => show V.str x = V.str (st x.cps.toList); congr 1
theorem cb_list (hc : X.calm = true) : Cb X (.type "list") .listOf := by
  refine cb1 (callr_or call_list_of (call_listD hc)) (fun ds x h => one_of (o := o_listOf) h rfl fun a b r => by cases a <;> rfl) fun d x v H Q ho h q => ?_
  cases d <;> simp only [opD, o_listOf] at ho <;> cases ho
  · obtain ⟨a, vs, rfl, s1, r1⟩ := h.tup
    exact .inl ⟨a, vs, rfl, .inr s1.sq, fun l hl => newL q r1 hl⟩
  · obtain ⟨a, vs, rfl, s1, r1⟩ := h.lst
    exact .inl ⟨a, vs, rfl, .inl (.inl s1), fun l hl => newL q r1 hl⟩
  · obtain ⟨a, u, kvs, rfl, s1, o1, r1⟩ := h.dic
    obtain ⟨ks, rfl, rfl⟩ := dk_of o1
    exact .inr ⟨a, ks, rfl, s1, fun p hp => newL q (keys_rep r1).1 hp⟩
theorem cb_int : Cb X (.type "int") .intOf := by
  refine cb1 call_int1 (fun ds x h => one_of (o := o_intOf) h rfl fun a b r => by cases a <;> rfl) fun d x v H Q ho h q => ?_
  cases d <;> simp only [opD, o_intOf] at ho <;> cases ho
  · cases h.bl
    exact .inr ⟨_, rfl, flatR q rfl rfl⟩
  · cases h.int
    exact .inl ⟨_, rfl, flatR q rfl rfl⟩
theorem log2_64 {n : Nat} (h : n < 2 ^ 64) : n.log2 < 1920 := by
  by_cases z : n = 0
  · rw [z]; decide
  · have := (Nat.log2_lt z).mpr h
    omega
theorem str_toInt (i : Int) : V.str (toString i : String) = V.str (st (intText i)) := by
  congr 1
  rw [Str.ofString_eq_toList]
  rfl
theorem cb_str : Cb X (.type "str") .strOf := by
  refine cb1 call_str_int (fun ds x h => one_of (o := o_strOf) h rfl fun a b r => by cases a <;> rfl) fun d x v H Q ho h q => ?_
  cases d <;> simp only [opD, o_strOf] at ho <;> try (cases ho)
  split at ho
  · rename_i hs
    cases ho
    cases h.int
    refine ⟨_, rfl, log2_64 hs, ?_⟩
    rw [str_toInt]
    exact flatR q rfl rfl
  · cases ho
/-! sorted -/
theorem nil_toStrs {l : List D} (h : toInts l = none) : l ≠ [] := fun e => by subst e; cases h
theorem perm_map_str {ks : List Str} {ss : List (List Nat)} (e : ks.map V.str = (ss.map st).map V.str) : ks = ss.map st := by
  have : ∀ {a b : List Str}, a.map V.str = b.map V.str → a = b := by
    intro a
    induction a with
    | nil => intro b h; cases b with | nil => rfl | cons => cases h
    | cons x a ih =>
      intro b h
      cases b with
      | nil => cases h
      | cons y b =>
        rw [List.map_cons, List.map_cons] at h
        injection h with h1 h2
        cases h1
        rw [ih h2]
  exact this e
theorem key_ints : ∀ {ks : List (Key × V)} {ns : List Int}, (ks.map fun kv => kV kv.1) = ns.map V.int → ks.map (·.1) = ns.map Sum.inl
  | [], [], _ => rfl
  | [], _ :: _, h => by cases h
  | _ :: _, [], h => by cases h
  | p :: ks, n :: ns, h => by
    rw [List.map_cons, List.map_cons] at h
    injection h with h1 h2
    rw [List.map_cons, List.map_cons, key_ints h2]
    congr 1
    cases e : p.1 with
    | inl i => rw [e] at h1; cases h1; rfl
    | inr x => rw [e] at h1; cases h1
theorem key_strs : ∀ {ks : List (Key × V)} {ss : List Str}, (ks.map fun kv => kV kv.1) = ss.map V.str → ks.map (·.1) = ss.map Sum.inr
  | [], [], _ => rfl
  | [], _ :: _, h => by cases h
  | _ :: _, [], h => by cases h
  | p :: ks, n :: ss, h => by
    rw [List.map_cons, List.map_cons] at h
    injection h with h1 h2
    rw [List.map_cons, List.map_cons, key_strs h2]
    congr 1
    cases e : p.1 with
    | inl i => rw [e] at h1; cases h1
    | inr x => rw [e] at h1; cases h1; rfl
theorem cb_sorted (hc : X.calm = true) (hu : X.A.units + 8 < cLine) : Cb X (.builtin "sorted") .sorted := by
  refine cb1 (callr_or cr_sortedI (callr_or cr_sortedS (callr_or (call_sortedD hc) (callr_or (call_sortedDI hc) (callr_or (cr_sortedR hu) (cr_sortedTI hu)))))) (fun ds x h => one_of (o := o_sorted) h rfl fun a b r => by cases a <;> rfl) fun d x v H Q ho h q => ?_
  cases d <;> simp only [opD, o_sorted] at ho <;> try (cases ho)
  · rename_i l
    obtain ⟨a, vs, rfl, s1, r1⟩ := h.tup
    cases e : toInts l with
    | none => rw [e] at ho; cases ho
    | some ns =>
      rw [e] at ho
      cases ho
      obtain ⟨rfl, rfl⟩ := toInts_rep e r1
      refine .inr (.inr (.inr (.inr (.inr ⟨a, ns, rfl, s1.sq, fun ns' p hp hs hn => ?_⟩))))
      rw [sortI_unique hp hs]
      exact newL q (reps_ints _) hn
  · rename_i l
    obtain ⟨a, vs, rfl, s1, r1⟩ := h.lst
    cases es : sortD l with
    | some r0 =>
      rw [es] at ho
      cases ho
      unfold sortD at es
      split at es
      · rename_i ns e
        cases es
        obtain ⟨rfl, rfl⟩ := toInts_rep e r1
        refine .inl ⟨a, ns, rfl, .inl s1, fun ns' p hp hs hn => ?_⟩
        rw [sortI_unique hp hs]
        exact newL q (reps_ints _) hn
      · split at es
        · rename_i ss e
          split at es
          · rename_i h64
            cases es
            obtain ⟨rfl, rfl⟩ := toStrs_rep e r1
            refine .inr (.inl ⟨a, ss.map st, rfl, .inl s1, by rw [List.length_map]; exact h64, fun ys p hp hs hn => ?_⟩)
            rw [sortedS_unique hp hs]
            exact newL q (reps_strs _) hn
          · cases es
        · cases es
    | none =>
      rw [es] at ho
      simp only at ho
      split at ho
      · cases e : toRows l with
        | none => rw [e] at ho; cases ho
        | some rs =>
          rw [e] at ho
          cases ho
          obtain ⟨ps, rfl, rfl, _, h3⟩ := toRows_rep e r1
          refine .inr (.inr (.inr (.inr (.inl ⟨a, ps, rfl, .inl s1, fun p hp => ?_, fun qs p hq hs hn => ?_⟩))))
          · obtain ⟨h4, t, us, e5, h5, h6⟩ := h3 p hp
            refine ⟨h4, t, e5, ?_⟩
            have e7 : ∀ (ns : List Int) (us : List V), Reps X.K H (ns.map D.int) us → us = ns.map V.int := fun ns => by
              induction ns with
              | nil => intro us h; exact h
              | cons n ns ih =>
                intro us h
                obtain ⟨v, w, rfl, h1, h2⟩ := h
                rw [ih w h2]
                cases (show v = .int n from h1)
                rfl
            rw [← e7 _ _ h6]
            exact h5.sq
          · have e8 : qs.map (·.2) = sortR (ps.map (·.2)) := sortR_unique (hq.map _) hs
            have e9 : Reps X.K H ((qs.map (·.2)).map rowD) (qs.map (·.1)) := by
              have hall : ∀ p ∈ qs, Rep X.K H (rowD p.2) p.1 := fun p hp => (h3 p (hq.mem_iff.mp hp)).2
              clear hq hs e8
              induction qs with
              | nil => exact rfl
              | cons p qs ih => exact ⟨p.1, qs.map (·.1), rfl, hall p List.mem_cons_self, ih fun p hp => hall p (List.mem_cons_of_mem _ hp)⟩
            rw [e8] at e9
            exact newL q e9 hn
      · cases ho
  · obtain ⟨a, u, kvs, rfl, s1, o1, r1⟩ := h.dic
    obtain ⟨ks, rfl, rfl⟩ := dk_of o1
    split at ho
    · rename_i h64
      have hl := r1.len
      rw [List.length_map] at hl
      obtain ⟨k1, k2⟩ := keys_rep r1
      unfold sortD at ho
      split at ho
      · rename_i ns e
        cases ho
        obtain ⟨e1, e2⟩ := toInts_rep e k1
        refine .inr (.inr (.inr (.inl ⟨a, ks, ns, rfl, s1, key_ints e1, ?_, fun ns' p hp hs hn => ?_⟩)))
        · have := congrArg List.length e1
          rw [List.length_map, List.length_map] at this
          omega
        · rw [sortI_unique hp hs]
          exact newL q (reps_ints _) hn
      · split at ho
        · rename_i ss e
          split at ho
          · cases ho
            obtain ⟨e1, e2⟩ := toStrs_rep e k1
            refine .inr (.inr (.inl ⟨a, ks, ss.map st, rfl, s1, key_strs e1, ?_, fun ys p hp hs hn => ?_⟩))
            · have := congrArg List.length e1
              rw [List.length_map, List.length_map] at this
              omega
            · rw [sortedS_unique hp hs]
              exact newL q (reps_strs _) hn
          · cases ho
        · cases ho
    · cases ho
/-! isinstance -/
def tyName : Ty → String
  | .int => "int"
  | .bool => "bool"
  | .str => "str"
  | .tuple => "tuple"
  | .list => "list"
  | .dict => "dict"
theorem isi_ty {K : PySem.W.Frag} {H : Hp} {d : D} {v : V} (h : RepQ K H d v) : ∃ T : String, TyX K H v (.type T) ∧ ∀ t : Ty, PySem.W.kitOne K (.type T) (.type (tyName t)) = some (isTy t d) := by
  cases d with
  | non => cases h.non; exact ⟨_, .base .non, fun t => by cases t <;> rfl⟩
  | bl b => cases h.bl; exact ⟨_, .base (.bl b), fun t => by cases t <;> rfl⟩
  | int b => cases h.int; exact ⟨_, .base (.int b), fun t => by cases t <;> rfl⟩
  | str b => cases h.str; exact ⟨_, .base (.str _), fun t => by cases t <;> rfl⟩
  | tup l =>
    obtain ⟨a, vs, rfl, s1, r1⟩ := h.tup
    have k : ∀ t : Ty, PySem.W.kitOne K (.type "tuple") (.type (tyName t)) = some (isTy t (.tup l)) := fun t => by cases t <;> rfl
    rcases s1.sq with (s1 | ⟨o, s1⟩) | ⟨o, its, n, s1, s2, _⟩
    · exact ⟨_, .base (.tup s1), k⟩
    · exact ⟨_, .fTuple s1, k⟩
    · exact ⟨_, .kTuple s1 s2, k⟩
  | lst l =>
    obtain ⟨a, vs, rfl, s1, r1⟩ := h.lst
    have k : ∀ t : Ty, PySem.W.kitOne K (.type "list") (.type (tyName t)) = some (isTy t (.lst l)) := fun t => by cases t <;> rfl
    rcases s1 with s1 | ⟨o, s1⟩
    · exact ⟨_, .base (.lst s1), k⟩
    · exact ⟨_, .base (.frz s1), k⟩
  | dic l =>
    obtain ⟨a, u, kvs, rfl, s1, o1, r1⟩ := h.dic
    obtain ⟨ks, rfl, rfl⟩ := dk_of o1
    have k : ∀ t : Ty, PySem.W.kitOne K (.type "dict") (.type (tyName t)) = some (isTy t (.dic l)) := fun t => by cases t <;> rfl
    rcases s1 with s1 | ⟨o, s1⟩
    · exact ⟨_, .base (.dK s1), k⟩
    · exact ⟨_, .fDict s1, k⟩
end
end Pv
end
section
/-! PvF: expressions. -/
namespace Pv
open PySem PySem.Spec PyProof.Rows L2

section
variable {X : Cx} {C : Ctx}
/-- .. as a test -/
structure SnT (X : Cx) (C : Ctx) (a : Expr) (e : E) : Prop where
  t : PT X a (tB' X.K (evT C e))
structure SnW (X : Cx) (C : Ctx) (a : Expr) (e : E) : Prop where
  t : PW X a (tB' X.K (evT C e))
theorem SnW.tt {a : Expr} {e : E} (h : SnW X C a e) : SnT X C a e := ⟨h.t.pt⟩
theorem tB_of {K : PySem.W.Frag} {e : E} {σ : L2.St} {H : Hp} {Q : Bool → Hp → Prop} (q : tB' K (evT C e) σ H Q) : tR K (ev C e) σ H fun v H' => ∃ k, v = .bl k ∧ Q k H' := by
  obtain ⟨σd, rel, q⟩ := q
  refine ⟨σd, rel, ?_⟩
  unfold evT at q
  cases e1 : ev C e σd with
  | no => rw [e1] at q; exact q.elim
  | ok r σ1 =>
    rw [e1] at q
    intro v H' rel' x rv n
    simp only [Out.bind] at q
    split at q
    · rename_i b
      exact ⟨b, rv, q H' rel' ⟨x.1, fun a h => x.2 a (.inl h)⟩⟩
    · exact q.elim
theorem snT_val {a : Expr} {e : E} (h : Sn X C a e) (he : ∀ whole, isTrue a X.env whole = (do let v ← whole; standAt a.pos; holding [v] (truthy v)) := by intro _; rfl) : SnT X C a e :=
  ⟨pt_weak (pt_val h.r he) fun σ H Q q => tB_of q⟩

/-! ### operators -/
variable {a b c : Expr} {ea eb ec : E} {pos : Pos}
theorem bin_w {o : Op} {σ : L2.St} {H : Hp} {Q : VK} (hk : o.keeps = false) (q : tR X.K (ev C (.op o (.cons ea (.cons eb .nil)))) σ H Q) : tOp (fun x y H Q => OpW X.K o [x, y] H Q) (tP X.K (evP1 C ea)) (tP X.K (evP1 C eb)) σ H Q :=
  tP_mono (tPs_cons (op_post hk q)) fun v H1 h => tP_mono (tPs_cons h) fun w H2 h => tPs_nil h
theorem sn_bin {o : Op} {op : Operator} (ho : Ob X (binaryOp op) o) (ha : Sn X C a ea) (hb : Sn X C b eb) (hk : o.keeps = false := by rfl) : Sn X C (.BinOp a op b pos) (.op o (.cons ea (.cons eb .nil))) :=
  .of (pe_weak (pe_op ho ha.p hb.p) fun σ H Q q => bin_w hk q) fun i => by simp
theorem sn_cmp {o : Op} {op : CmpOp} (ho : Ob X (compareOp op) o) (ha : Sn X C a ea) (hb : Sn X C b eb) (hm : behindInMarks op b = false) (hk : o.keeps = false := by rfl) : Sn X C (.Compare a [op] [b] pos) (.op o (.cons ea (.cons eb .nil))) :=
  .of (pe_weak (pe_cmpR ho ha.p hb.p hm) fun σ H Q q => bin_w hk q) fun i => by simp
theorem snT_cmp {o : Op} {op : CmpOp} (ho : Ob X (compareOp op) o) (ha : Sn X C a ea) (hb : Sn X C b eb) (hm : behindInMarks op b = false) (hk : o.keeps = false := by rfl) : SnT X C (.Compare a [op] [b] pos) (.op o (.cons ea (.cons eb .nil))) :=
  ⟨pt_weak (pt_cmpR ho ha.p hb.p hm) fun σ H Q q => bin_w hk (tB_of q)⟩
theorem sn_neg (ha : Sn X C a ea) : Sn X C (.UnaryOp .USub a pos) (.op .neg (.cons ea .nil)) := by
  refine .of (pe_weak (pe_un un_neg ha.p) fun σ H Q q => ?_) fun i => by simp
  refine tP_mono (tPs_cons (op_post rfl q)) fun v H1 h => ?_
  obtain ⟨ds, r, hq, ho, q⟩ := tPs_nil h
  obtain ⟨d, rfl, h1⟩ := qs1 hq
  cases d <;> simp only [opD, o_neg] at ho <;> cases ho
  cases h1.int
  exact ⟨_, rfl, flatR q rfl rfl⟩
theorem is_w {σ : L2.St} {H : Hp} {Q : VK} (q : tR X.K (ev C (.op .isN (.cons ea .nil))) σ H Q) : tIsN (tP X.K (evP1 C ea)) σ H Q := by
  refine tP_mono (tPs_cons (op_post rfl q)) fun v H1 h => ?_
  obtain ⟨ds, r, hq, ho, q⟩ := tPs_nil h
  obtain ⟨d, rfl, h1⟩ := qs1 hq
  cases d <;> simp only [opD, o_isN] at ho <;> cases ho
  · cases h1.non; exact flatR q rfl rfl
  · cases h1.bl; exact flatR q rfl rfl
  · cases h1.int; exact flatR q rfl rfl
  · cases h1.str; exact flatR q rfl rfl
  · obtain ⟨_, _, rfl, _⟩ := h1.tup; exact flatR q rfl rfl
  · obtain ⟨_, _, rfl, _⟩ := h1.lst; exact flatR q rfl rfl
  · obtain ⟨_, _, _, rfl, _⟩ := h1.dic; exact flatR q rfl rfl
theorem isn_w {σ : L2.St} {H : Hp} {Q : VK} (q : tR X.K (ev C (.op .isnN (.cons ea .nil))) σ H Q) : tNotN (tP X.K (evP1 C ea)) σ H Q := by
  refine tP_mono (tPs_cons (op_post rfl q)) fun v H1 h => ?_
  obtain ⟨ds, r, hq, ho, q⟩ := tPs_nil h
  obtain ⟨d, rfl, h1⟩ := qs1 hq
  cases d <;> simp only [opD, o_isnN] at ho <;> cases ho
  · cases h1.non; exact flatR q rfl rfl
  · cases h1.bl; exact flatR q rfl rfl
  · cases h1.int; exact flatR q rfl rfl
  · cases h1.str; exact flatR q rfl rfl
  · obtain ⟨_, _, rfl, _⟩ := h1.tup; exact flatR q rfl rfl
  · obtain ⟨_, _, rfl, _⟩ := h1.lst; exact flatR q rfl rfl
  · obtain ⟨_, _, _, rfl, _⟩ := h1.dic; exact flatR q rfl rfl
theorem sn_isN {j : Nat} {p' : Pos} (ha : Sn X C a ea) : Sn X C (.Compare a [.Is] [.Constant .none j p'] pos) (.op .isN (.cons ea .nil)) :=
  .of (pe_weak (pe_cmp (pc_isN ha.p)) fun σ H Q q => is_w q) fun i => by simp
theorem sn_isnN {j : Nat} {p' : Pos} (ha : Sn X C a ea) : Sn X C (.Compare a [.IsNot] [.Constant .none j p'] pos) (.op .isnN (.cons ea .nil)) :=
  .of (pe_weak (pe_cmp (pc_notN ha.p)) fun σ H Q q => isn_w q) fun i => by simp
theorem snT_isN {j : Nat} {p' : Pos} (ha : Sn X C a ea) : SnT X C (.Compare a [.Is] [.Constant .none j p'] pos) (.op .isN (.cons ea .nil)) :=
  ⟨pt_weak (pt_cmp (pc_isN ha.p)) fun σ H Q q => is_w (tB_of q)⟩
theorem snT_isnN {j : Nat} {p' : Pos} (ha : Sn X C a ea) : SnT X C (.Compare a [.IsNot] [.Constant .none j p'] pos) (.op .isnN (.cons ea .nil)) :=
  ⟨pt_weak (pt_cmp (pc_notN ha.p)) fun σ H Q q => isn_w (tB_of q)⟩

/-! ### and, or, not, if else -/
theorem tB_mono {K : PySem.W.Frag} {f : Env → Out Bool} {σ : L2.St} {H : Hp} {Q Q' : Bool → Hp → Prop} (q : tB' K f σ H Q) (w : ∀ v H, Q v H → Q' v H) : tB' K f σ H Q' := by
  obtain ⟨σd, rel, q⟩ := q
  refine ⟨σd, rel, ?_⟩
  cases e : f σd with
  | no => rw [e] at q; exact q
  | ok p σ1 => rw [e] at q; exact fun H' r x => w _ H' (q H' r x)
theorem tR_mono {K : PySem.W.Frag} {f : Env → Out R} {σ : L2.St} {H : Hp} {Q Q' : VK} (q : tR K f σ H Q) (w : ∀ v H, Q v H → Q' v H) : tR K f σ H Q' := by
  obtain ⟨σd, rel, q⟩ := q
  refine ⟨σd, rel, ?_⟩
  cases e : f σd with
  | no => rw [e] at q; exact q
  | ok p σ1 => rw [e] at q; exact fun v H' r x p n => w _ H' (q v H' r x p n)
/-- a value behind a test -/
theorem tB_then {K : PySem.W.Frag} {f : Env → Out Bool} {g : Bool → Env → Out R} {σ : L2.St} {H : Hp} {Q : VK} (q : tR K (fun σ => (f σ).bind g) σ H Q) : tB' K f σ H fun b H1 => tR K (g b) σ H1 Q := by
  obtain ⟨σd, rel, q⟩ := q
  refine ⟨σd, rel, ?_⟩
  dsimp only at q
  cases e : f σd with
  | no => rw [e] at q; exact q
  | ok b σ1 =>
    rw [e] at q
    intro H1 rel1 x1
    refine ⟨σ1, rel1, ?_⟩
    simp only [Out.bind] at q
    cases e2 : g b σ1 with
    | no => rw [e2] at q; exact q
    | ok r σ2 =>
      rw [e2] at q
      intro v H2 rel2 x2 rv n
      exact q v H2 rel2 (x1.trans x2) rv n
theorem tBB_then {K : PySem.W.Frag} {f : Env → Out Bool} {g : Bool → Env → Out Bool} {σ : L2.St} {H : Hp} {Q : Bool → Hp → Prop} (q : tB' K (fun σ => (f σ).bind g) σ H Q) : tB' K f σ H fun b H1 => tB' K (g b) σ H1 Q := by
  obtain ⟨σd, rel, q⟩ := q
  refine ⟨σd, rel, ?_⟩
  dsimp only at q
  cases e : f σd with
  | no => rw [e] at q; exact q
  | ok b σ1 =>
    rw [e] at q
    intro H1 rel1 x1
    refine ⟨σ1, rel1, ?_⟩
    simp only [Out.bind] at q
    cases e2 : g b σ1 with
    | no => rw [e2] at q; exact q
    | ok r σ2 =>
      rw [e2] at q
      intro H2 rel2 x2
      exact q H2 rel2 (x1.trans x2)
theorem tB_pure {K : PySem.W.Frag} {b : Bool} {σ : L2.St} {H : Hp} {Q : Bool → Hp → Prop} (q : tB' K (fun σ => .ok b σ) σ H Q) : Q b H := by
  obtain ⟨σd, rel, q⟩ := q
  exact q H rel (Ext.refl _ _)
theorem tR_pure {K : PySem.W.Frag} {d : D} {v : V} {σ : L2.St} {H : Hp} {Q : VK} (q : tR K (fun σ => .ok (.v d) σ) σ H Q) (h : Rep K H d v) : Q v H := by
  obtain ⟨σd, rel, q⟩ := q
  exact q v H rel ⟨fun _ _ h _ => h, fun b h => h.elim .inl fun z => (by cases z.1)⟩ h fun _ h => by cases h
theorem evT_and (σ : Env) : evT C (.and ea eb) σ = (evT C ea σ).bind fun x σ => if x then evT C eb σ else .ok false σ := by
  simp only [evT, ev]
  cases ev C ea σ with
  | no => rfl
  | ok r σ1 =>
    simp only [Out.bind]
    cases r with
    | l _ => rfl
    | m _ => rfl
    | v d => cases d <;> try rfl
             rename_i x
             cases x <;> rfl
theorem evT_or (σ : Env) : evT C (.or ea eb) σ = (evT C ea σ).bind fun x σ => if x then .ok true σ else evT C eb σ := by
  simp only [evT, ev]
  cases ev C ea σ with
  | no => rfl
  | ok r σ1 =>
    simp only [Out.bind]
    cases r with
    | l _ => rfl
    | m _ => rfl
    | v d => cases d <;> try rfl
             rename_i x
             cases x <;> rfl
theorem evT_not (σ : Env) : evT C (.not ea) σ = (evT C ea σ).bind fun x σ => .ok (!x) σ := by
  simp only [evT, ev]
  cases ev C ea σ with
  | no => rfl
  | ok r σ1 =>
    simp only [Out.bind]
    cases r with
    | l _ => rfl
    | m _ => rfl
    | v d => cases d <;> rfl
theorem ev_ife (σ : Env) : ev C (.ife ec ea eb) σ = (evT C ec σ).bind fun x σ => if x then ev C ea σ else ev C eb σ := by
  simp only [evT, ev]
  cases ev C ec σ with
  | no => rfl
  | ok r σ1 =>
    simp only [Out.bind]
    cases r with
    | l _ => rfl
    | m _ => rfl
    | v d => cases d <;> rfl
theorem snW_and1 (ha : SnT X C a ea) : SnW X C (.BoolOp .And [a] pos) ea := ⟨pw_and1 ha.t⟩
theorem snW_or1 (ha : SnT X C a ea) : SnW X C (.BoolOp .Or [a] pos) ea := ⟨pw_or1 ha.t⟩
theorem snW_and {rest : List Expr} (ha : SnT X C a ea) (hb : SnW X C (.BoolOp .And (b :: rest) pos) eb) : SnW X C (.BoolOp .And (a :: b :: rest) pos) (.and ea eb) := by
  refine ⟨pw_weak (pw_and ha.t hb.t) fun σ H Q q => ?_⟩
  rw [show evT C (.and ea eb) = _ from funext evT_and] at q
  refine tB_mono (tBB_then q) fun x H1 h => ?_
  cases x
  · exact tB_pure h
  · exact h
theorem snW_or {rest : List Expr} (ha : SnT X C a ea) (hb : SnW X C (.BoolOp .Or (b :: rest) pos) eb) : SnW X C (.BoolOp .Or (a :: b :: rest) pos) (.or ea eb) := by
  refine ⟨pw_weak (pw_or ha.t hb.t) fun σ H Q q => ?_⟩
  rw [show evT C (.or ea eb) = _ from funext evT_or] at q
  refine tB_mono (tBB_then q) fun x H1 h => ?_
  cases x
  · exact h
  · exact tB_pure h
theorem snT_not (ha : SnT X C a ea) : SnT X C (.UnaryOp .Not a pos) (.not ea) := by
  refine ⟨pt_weak (pt_not ha.t) fun σ H Q q => ?_⟩
  rw [show evT C (.not ea) = _ from funext evT_not] at q
  exact tB_mono (tBB_then q) fun x H1 h => tB_pure h
/-- the value of a test -/
theorem ev_andV (σ : Env) : ev C (.and ea eb) σ = (ev C ea σ).bind fun r σ => match r with
    | .v (.bl true) => ev C eb σ
    | .v (.bl false) => .ok r σ
    | _ => .no := by
  simp only [ev] <;> rfl
/-- a value, then more -/
theorem tR_then {K : PySem.W.Frag} {f : Env → Out R} {g : R → Env → Out R} {σ : L2.St} {H : Hp} {Q : VK} (q : tR K (fun σ => (f σ).bind g) σ H Q) (hg : ∀ r σ', r.own = true → g r σ' = .no) :
    tR K f σ H fun v H1 => ∃ d, Rep K H1 d v ∧ tR K (g (.v d)) σ H1 Q := by
  obtain ⟨σd, rel, q⟩ := q
  refine ⟨σd, rel, ?_⟩
  dsimp only at q
  cases e : f σd with
  | no => rw [e] at q; exact q
  | ok r σ1 =>
    rw [e] at q
    simp only [Out.bind] at q
    cases r with
    | l xs => rw [hg _ _ rfl] at q; exact q.elim
    | m xs => rw [hg _ _ rfl] at q; exact q.elim
    | v d =>
      intro v H1 rel1 x1 rv n
      refine ⟨d, rv, σ1, rel1, ?_⟩
      have x1' : Ext (Own σd σ) (Own σ1 σ) H H1 := ⟨x1.1, fun a h => x1.2 a (.inl h)⟩
      cases e2 : g (.v d) σ1 with
      | no => rw [e2] at q; exact q
      | ok r σ2 =>
        rw [e2] at q
        intro v H2 rel2 x2 rv n
        exact q v H2 rel2 (x1'.trans x2) rv n
theorem sn_one {op : PySem.BoolOp} (ha : Sn X C a ea) : PE X (.BoolOp op [a] pos) (tR X.K (ev C ea)) := pe_one ha.r
theorem pe_andE {rest : List Expr} (ha : PE X a (tR X.K (ev C ea))) (hb : PE X (.BoolOp .And (b :: rest) pos) (tR X.K (ev C eb))) : PE X (.BoolOp .And (a :: b :: rest) pos) (tR X.K (ev C (.and ea eb))) := by
  refine pe_weak (pe_and ha hb) fun σ H Q q => ?_
  rw [show ev C (.and ea eb) = _ from funext ev_andV] at q
  refine tR_mono (tR_then q fun r σ' h => by cases r <;> first | rfl | cases h) fun v H1 h => ?_
  obtain ⟨d, rd, h⟩ := h
  cases d with
  | bl x =>
    refine ⟨x, rd, ?_⟩
    cases x
    · rw [if_neg (by decide)]
      exact tR_pure h rfl
    · rw [if_pos rfl]
      exact h
  | _ => obtain ⟨_, _, h⟩ := h; exact h.elim
theorem pe_orE {rest : List Expr} (ha : PE X a (tR X.K (ev C ea))) (hb : PE X (.BoolOp .Or (b :: rest) pos) (tR X.K (ev C eb))) : PE X (.BoolOp .Or (a :: b :: rest) pos) (tR X.K (ev C (.or ea eb))) := by
  refine pe_weak (pe_or ha hb) fun σ H Q q => ?_
  rw [show ev C (.or ea eb) = (fun σ => (ev C ea σ).bind fun r σ => match r with
    | .v (.bl true) => .ok r σ
    | .v (.bl false) => ev C eb σ
    | _ => .no) from funext fun σ => by simp only [ev] <;> rfl] at q
  refine tR_mono (tR_then q fun r σ' h => by cases r <;> first | rfl | cases h) fun v H1 h => ?_
  obtain ⟨d, rd, h⟩ := h
  cases d with
  | bl x =>
    refine ⟨x, rd, ?_⟩
    cases x
    · rw [if_neg (by decide)]
      exact h
    · rw [if_pos rfl]
      exact tR_pure h rfl
  | _ => obtain ⟨_, _, h⟩ := h; exact h.elim
theorem sn_not (ha : Sn X C a ea) : Sn X C (.UnaryOp .Not a pos) (.not ea) := by
  refine .of (pe_weak (pe_not ha.r) fun σ H Q q => ?_) fun i => by simp
  rw [show ev C (.not ea) = (fun σ => (ev C ea σ).bind fun r σ => match r with
    | .v (.bl x) => .ok (.v (.bl (!x))) σ
    | _ => .no) from funext fun σ => by simp only [ev] <;> rfl] at q
  refine tR_mono (tR_then q fun r σ' h => by cases r <;> first | rfl | cases h) fun v H1 h => ?_
  obtain ⟨d, rd, h⟩ := h
  cases d with
  | bl x => exact ⟨x, rd, tR_pure h rfl⟩
  | _ => obtain ⟨_, _, h⟩ := h; exact h.elim
theorem sn_ife (hc : SnT X C c ec) (ha : Sn X C a ea) (hb : Sn X C b eb) : Sn X C (.IfExp c a b pos) (.ife ec ea eb) := by
  refine .of (pe_weak (pe_ifExp hc.t ha.r hb.r) fun σ H Q q => ?_) fun i => by simp
  rw [show ev C (.ife ec ea eb) = _ from funext ev_ife] at q
  refine tB_mono (tB_then q) fun x H1 h => ?_
  cases x <;> exact h

/-! ### rows that are written -/
variable {as : List Expr} {es : Es}
/-- a tuple display, its object known -/
def tTupP (t : TA) : TE := fun σ H Q => t σ H fun xs H1 => xs.length ≤ sizeLine ∧ ∀ p o, H1 p = none → o.dict = none → Q (.ref p) (upd H1 p (.frz o (.tup xs)))
theorem pe_tupP {es : List Expr} {t : TA} {pos : Pos} {x1} (h : PA X es t) : PE X (.Tuple es x1 pos) (tTupP t) := by
  refine ⟨fun pins s σ H Q I hq => ?_⟩
  refine wpAny_Tuple_spliced (thn (h.run pos pins s σ H _ I hq) fun us s1 ⟨xs, H1, I1, r, z, q⟩ => ⟨by rw [← r.length]; exact z, ?_⟩)
  exact ⟨.ref s1.heap.objs.size, upd H1 s1.heap.objs.size (.frz (tupO us.toArray) (.tup xs)), I1.laid (t' := s1.toks) (fun b u e => Heap.get?_push_of_some _ e) (Nat.le_refl _) (tupO_ok z r), rfl, q _ _ (I1.hok.fresh (Nat.le_refl _)) rfl⟩
theorem sn_tup {k : Nat} (ha : SnA X C as es) : Sn X C (.Tuple as k pos) (.op .tup es) := by
  refine .of (pe_weak (pe_tupP ha.d) fun σ H Q q => ?_) fun i => by simp
  refine tDs_mono (op_postD rfl q) fun vs H1 h => ?_
  obtain ⟨ds, r, hr, ho, q⟩ := h
  simp only [opD, o_tup] at ho
  split at ho
  · rename_i hs
    cases ho
    exact ⟨by rw [← hr.len]; exact Nat.le_of_lt (small_lt hs), fun p o np hd => newT q hr hd np⟩
  · cases ho
theorem sn_lst (ha : SnA X C as es) : Sn X C (.List as pos) (.op .lst es) := by
  refine .of (pe_weak (pe_lst ha.d) fun σ H Q q => ?_) fun i => by simp
  refine tDs_mono (op_postD rfl q) fun vs H1 h => ?_
  obtain ⟨ds, r, hr, ho, q⟩ := h
  simp only [opD, o_lst] at ho
  split at ho
  · rename_i hs
    cases ho
    exact ⟨by rw [← hr.len]; exact Nat.le_of_lt (small_lt hs), fun p np => newL q hr np⟩
  · cases ho
theorem sn_dic0 : Sn X C (.Dict [] [] pos) (.op .dic .nil) := by
  refine .of (pe_weak pe_dnewK fun σ H Q q => ?_) fun i => by simp
  have h := tDs_nil (op_postD rfl q)
  obtain ⟨ds, r, hr, ho, q⟩ := h
  have : ds = [] := by
    cases ds with
    | nil => rfl
    | cons d ds => obtain ⟨_, _, e, _⟩ := hr; cases e
  subst this
  cases ho
  exact fun p np => newM q ⟨[], rfl, rfl⟩ rfl np

/-! ### calls of what is built in -/
theorem call_w {o : Op} {σ : L2.St} {H : Hp} {Q : VK} (hk : o.keeps = false) (q : tR X.K (ev C (.op o es)) σ H Q) : tCB (fun xs H Q => OpW X.K o xs H Q) (tPs X.K (evPs C es)) σ H Q := op_post hk q
theorem sn_callB {o : Op} {x : Str} {id : String} {p : Pos} (hc : Cb X (.builtin id) o) (hg : Gl X x) (hm : X.mg x = none) (hv : bootBuiltins x = some (.builtin id)) (ha : SnA X C (a :: as) es) (hk : o.keeps = false := by rfl) (hn : x ≠ "__name__" := by decide) (hdb : (x == ("__debug__" : Str)) = false := by decide)
    (he : starEach (a :: as) X.env = (false, eval a X.env) :: starEach as X.env := by rfl) (hpl : (backTo pos (starEach as X.env)).any (·.1) = false := by rfl) : Sn X C (.Call (.Name x p) (a :: as) [] pos) (.op o es) :=
  .of (pe_weak (pe_callB hc hg hm hv ha.p hn hdb he hpl) fun σ H Q q => call_w hk q) fun i => by simp
theorem sn_callTy {o : Op} {x : Str} {T : String} {p : Pos} (hc : Cb X (.type T) o) (hg : Gl X x) (hm : X.mg x = none) (hv : bootBuiltins x = some (.type T)) (ha : SnA X C (a :: as) es) (hk : o.keeps = false := by rfl) (hn : x ≠ "__name__" := by decide) (hdb : (x == ("__debug__" : Str)) = false := by decide)
    (he : starEach (a :: as) X.env = (false, eval a X.env) :: starEach as X.env := by rfl) (hpl : (backTo pos (starEach as X.env)).any (·.1) = false := by rfl) : Sn X C (.Call (.Name x p) (a :: as) [] pos) (.op o es) :=
  .of (pe_weak (pe_callTy hc hg hm hv ha.p hn hdb he hpl) fun σ H Q q => call_w hk q) fun i => by simp
theorem sn_isi {t : Ty} {y : Str} {p p2 : Pos} (ha : Sn X C a ea) (hg : Gl X "isinstance") (hm : X.mg "isinstance" = none) (hg2 : Gl X y) (hm2 : X.mg y = none) (hy : bootBuiltins y = some (.type (tyName t))) (hny : y ≠ "__name__" := by decide) (hdy : (y == ("__debug__" : Str)) = false := by decide)
    (he : starEach [a, .Name y p2] X.env = (false, eval a X.env) :: starEach [.Name y p2] X.env := by rfl) : Sn X C (.Call (.Name "isinstance" p) [a, .Name y p2] [] pos) (.op (.isi t) (.cons ea .nil)) := by
  have hb : PE X (.Name y p2) (tC (.ty (tyName t))) := pe_bltn hg2 hm2 hy rfl hny hdy
  refine .of (pe_weak (pe_callB call_isi hg hm (by decide +kernel) (pa_cons ha.p (pa_cons hb pa_nil rfl) he) (by decide) (by decide) he rfl) fun σ H Q q => ?_) fun i => by simp
  refine tP_mono (tPs_cons (op_post rfl q)) fun v H1 h => ?_
  obtain ⟨ds, r, hq, ho, q⟩ := tPs_nil h
  obtain ⟨d, rfl, h1⟩ := qs1 hq
  simp only [opD, o_isi] at ho
  cases ho
  obtain ⟨T, ty, k⟩ := isi_ty h1
  exact ⟨v, .ty (tyName t), _, _, _, rfl, .ty _, ty, k t, flatR q rfl rfl⟩

/-! ### x[i], x[i:j] -/
theorem ix_dic (hu : X.A.units + 1 < cLine) : IxR X (fun x y H Q => ∃ a v, x = .ref a ∧ DGet H a y (some v) ∧ Q v H) := by
  intro value slice pins s σ H x y v u Q I rx ry h hs
  obtain ⟨a, w, rfl, g, q⟩ := h
  cases rx
  exact tail_any (dict_typeIs I g) PySem.F.slot_dict_getitem.lookup (d_getItem hu I g ry fun w' s' I' r' => ⟨w, H, I', r', q⟩) hs
theorem ixr_weak {r r' : R2} (h : IxR X r) (w : ∀ x y H Q, r' x y H Q → r x y H Q) : IxR X r' := fun value slice pins s σ H x y v u Q I rx ry q hs => h value slice pins s σ H x y v u Q I rx ry (w x y H Q q) hs
theorem ixN_eq (n : Nat) (i : Int) : ixN n i = L2.ixN n i := rfl
theorem ob_ix (hu : X.A.units + 1 < cLine) : IxR X (fun x y H Q => OpW X.K .ix [x, y] H Q) := by
  refine ixr_weak (ix_list.or (ix_tup.or (ix_str.or (ix_dic hu)))) fun x y H Q h => ?_
  obtain ⟨ds, r, hq, ho, q⟩ := h
  obtain ⟨d, e, rfl, h1, h2⟩ := qs2 hq
  simp only [opD] at ho
  unfold o_ix at ho
  split at ho
  · rename_i l i hh
    cases hh
    obtain ⟨a, vs, rfl, s1, r1⟩ := h1.tup
    cases h2.int
    cases e1 : (ixN l.length i).bind fun j => l[j]? with
    | none => rw [e1] at ho; cases ho
    | some z =>
      rw [e1] at ho
      cases ho
      cases e2 : ixN l.length i with
      | none => rw [e2] at e1; cases e1
      | some j =>
        rw [e2] at e1
        obtain ⟨w, hw, rw'⟩ := r1.get (i := j) e1
        refine .inr (.inl ⟨a, vs, i, w, rfl, rfl, s1.sq, ?_, flatR q rw' rfl⟩)
        unfold atI
        rw [← r1.len, ← ixN_eq, e2]
        exact hw
  · rename_i l i hh
    cases hh
    obtain ⟨a, vs, rfl, s1, r1⟩ := h1.lst
    cases h2.int
    cases e1 : (ixN l.length i).bind fun j => l[j]? with
    | none => rw [e1] at ho; cases ho
    | some z =>
      rw [e1] at ho
      cases ho
      cases e2 : ixN l.length i with
      | none => rw [e2] at e1; cases e1
      | some j =>
        rw [e2] at e1
        obtain ⟨w, hw, rw'⟩ := r1.get (i := j) e1
        refine .inl ⟨a, vs, i, w, rfl, rfl, .inl s1, ?_, flatR q rw' rfl⟩
        unfold atI
        rw [← r1.len, ← ixN_eq, e2]
        exact hw
  · rename_i t i hh
    cases hh
    split at ho
    · rename_i hs
      cases h1.str
      cases h2.int
      cases e1 : (ixN t.length i).bind fun j => t[j]? with
      | none => rw [e1] at ho; cases ho
      | some z =>
        rw [e1] at ho
        cases ho
        refine .inr (.inr (.inl ⟨st t, i, z, rfl, rfl, by rw [st_len]; exact Nat.le_of_lt (small_lt hs), ?_, flatR q rfl rfl⟩))
        unfold atI
        rw [st_list, ← ixN_eq]
        exact e1
    · cases ho
  · rename_i kvs k hh
    cases hh
    split at ho
    · rename_i hk
      obtain ⟨a, o, rfl, g, m1, m2⟩ := dget_of hk h1 h2
      cases e1 : mlook kvs e with
      | none => rw [e1] at ho; cases ho
      | some z =>
        rw [e1] at ho
        cases ho
        obtain ⟨w, rfl, rw'⟩ := m1 z e1
        exact .inr (.inr (.inr ⟨a, w, rfl, g, flatR q rw' rfl⟩))
    · cases ho
  · cases ho
theorem sn_ix (hu : X.A.units + 1 < cLine) (ha : Sn X C a ea) (hb : Sn X C b eb) (hs : PlainIx b := by exact fun _ _ => rfl) : Sn X C (.Subscript a b pos) (.op .ix (.cons ea (.cons eb .nil))) :=
  .of (pe_weak (pe_ix (ob_ix hu) ha.p hb.p hs) fun σ H Q q => bin_w rfl q) fun i => by simp
end
end Pv
end
section
/-! PvG: slices, dicts, methods, calls of the program's own defs. -/
namespace Pv
open PySem PySem.Spec PyProof.Rows L2

section
variable {X : Cx} {C : Ctx} {a b c : Expr} {ea eb ec : E} {pos p2 : Pos} {as : List Expr} {es : Es}
/-! ### slices -/
theorem slN_eq (n : Nat) (d : Nat) (i : Int) : HT.sIx n d (some i) = slN n i := by
  show (if i < 0 then (i + (n : Int)).toNat else min i.toNat n) = _
  unfold slN
  by_cases h : 0 ≤ i
  · rw [if_pos h, if_neg (by omega)]
  · rw [if_neg h, if_pos (by omega), Int.add_comm]
theorem cutV_eq {α : Type} (l : List α) (lo hi : Option Int) : cut l lo hi = (l.drop (HT.sIx l.length 0 lo)).take (HT.sIx l.length l.length hi - HT.sIx l.length 0 lo) := by
  unfold cut
  cases lo <;> cases hi <;> simp only [slN_eq] <;> rfl
theorem cut_reps {K : PySem.W.Frag} {H : Hp} {l : List D} {vs : List V} (h : Reps K H l vs) (lo hi : Option Int) : Reps K H (cut l lo hi) (cutV vs lo hi) := by
  rw [cutV_eq, h.len]
  exact Reps.take _ (Reps.drop _ h)
/-- what is wanted of a slice -/
def SlW (K : PySem.W.Frag) (x : V) (lo hi : Option Int) (H : Hp) (Q : VK) : Prop :=
  ∃ d r, RepQ K H d x ∧ slD lo hi d = some r ∧ ∀ v H', (∀ a u, H a = some u → H' a = some u) → (r.own = true → ∃ a, v = .ref a ∧ H a = none) → RepR K H' r v → Q v H'
theorem slr_weak {r r' : V → Option Int → Option Int → Hp → VK → Prop} (h : SlR X r) (w : ∀ x lo hi H Q, r' x lo hi H Q → r x lo hi H Q) : SlR X r' := fun pins s σ H x v vl vu lo hi sl Q I rx hs pl pu q => h pins s σ H x v vl vu lo hi sl Q I rx hs pl pu (w _ _ _ _ _ q)
/-- t[lo:hi] -/
def rSlP (K : PySem.W.Frag) : V → Option Int → Option Int → Hp → VK → Prop := fun x lo hi H Q => ∃ a xs, x = .ref a ∧ SqT K H a xs ∧
  (HT.sIx xs.length 0 lo = 0 ∧ HT.sIx xs.length xs.length hi = xs.length → Q (.ref a) H) ∧ (¬ (HT.sIx xs.length 0 lo = 0 ∧ HT.sIx xs.length xs.length hi = xs.length) → ∀ p o, H p = none → o.dict = none → Q (.ref p) (upd H p (.frz o (.tup (cutV xs lo hi)))))
theorem sl_tupP : SlR X (rSlP X.K) := by
  intro pins s σ H x v vl vu lo hi sl Q I rx hs pl pu h
  obtain ⟨a, xs, rfl, hx, q1, q2⟩ := h
  cases rx
  obtain ⟨its, r, ht, hz⟩ := I.tuple hx
  have hlen : its.toArray.size = xs.length := by rw [List.size_toArray]; exact r.length.symm
  refine ⟨"tuple", _, PyProof.Rows.slot_tuple_getitem.lookup, ht.typeIs, ?_⟩
  by_cases hw : HT.sIx xs.length 0 lo = 0 ∧ HT.sIx xs.length xs.length hi = xs.length
  · exact getItem_tuple_whole ht hs pl pu (by rw [hlen]; exact hw) ⟨.ref a, H, I, rfl, q1 hw⟩
  · refine HT.getItem_tuple_cut ht hs pl pu (by rw [hlen]; exact hw) ?_ (by rw [hlen]; exact hz)
    rw [hlen]
    exact ⟨.ref s.heap.objs.size, _, I.laid (t' := s.toks) (o := .frz (tupO _) (.tup (cutV xs lo hi))) (fun b ob q => Heap.get?_push_of_some _ q) (Nat.le_refl _) (tupO_ok (Nat.le_trans (cutV_length xs lo hi) hz) ((r.drop (HT.sIx xs.length 0 lo)).take (HT.sIx xs.length xs.length hi - HT.sIx xs.length 0 lo))), rfl, q2 hw _ _ (I.hok.fresh (Nat.le_refl _)) rfl⟩
theorem sl_all : SlR X (SlW X.K) := by
  refine slr_weak (sl_list.or (sl_tupP.or sl_str)) fun x lo hi H Q h => ?_
  obtain ⟨d, r, h1, ho, q⟩ := h
  cases d <;> simp only [slD] at ho <;> try (cases ho)
  · split at ho
    · rename_i hs
      cases ho
      cases h1.str
      refine .inr (.inr ⟨_, rfl, by rw [st_len]; exact Nat.le_of_lt (small_lt hs), flatR q ?_ rfl⟩)
      show V.str (cutS (st _) lo hi) = V.str (st (cut _ lo hi))
      unfold cutS
      rw [st_list, st_len, cutV_eq]
      rfl
    · cases ho
  · obtain ⟨a, vs, rfl, s1, r1⟩ := h1.tup
    refine .inr (.inl ⟨a, vs, rfl, s1.sq, fun hw => flatR q ?_ rfl, fun _ p o np hd => newT q (cut_reps r1 lo hi) hd np⟩)
    refine ⟨a, vs, rfl, s1, ?_⟩
    have : cutV vs lo hi = vs := by
      unfold cutV
      rw [hw.1, hw.2, List.drop_zero, Nat.sub_zero, List.take_length]
    rw [← this]
    exact cut_reps r1 lo hi
  · obtain ⟨a, vs, rfl, s1, r1⟩ := h1.lst
    exact .inl ⟨a, vs, rfl, .inl s1, fun p np => newL q (cut_reps r1 lo hi) np⟩
theorem tPsK1 {K : PySem.W.Frag} {e : E} {es : Es} {k : Nat} {ks : List Nat} {σ : L2.St} {H : Hp} {Q : List V → Hp → Prop} (q : tPsK K C (.cons e es) (k :: ks) σ H Q) :
    tP K (evP1 C e) σ H fun v H1 => (∃ d, RepQ K H1 d v ∧ kind d = k) ∧ tPsK K C es ks σ H1 fun vs H2 => Q (v :: vs) H2 := q
theorem kind_int {K : PySem.W.Frag} {H : Hp} {v : V} (h : ∃ d, RepQ K H d v ∧ kind d = 2) : ∃ i, v = .int i := by
  obtain ⟨d, r, k⟩ := h
  cases d <;> try (cases k)
  exact ⟨_, r.int⟩
theorem sl_end {lo hi : Bool} {d : D} {ds : List D} {r : R} (h : opD (.sl lo hi) (d :: ds) = some r) : ∃ b, bounds lo hi ds = some b ∧ slD b.1 b.2 d = some r := by
  simp only [opD, o_sl] at h
  cases e : bounds lo hi ds with
  | none => rw [e] at h; cases h
  | some b => rw [e] at h; exact ⟨b, rfl, h⟩
theorem sn_sl_hi (ha : Sn X C a ea) (hb : Sn X C b eb) : Sn X C (.Subscript a (.Slice none (some b) none p2) pos) (.op (.sl false true) (.cons ea (.cons eb .nil))) := by
  refine .of (pe_weak (pe_slice sl_all ha.p po_none (po_some hb.p)) fun σ H Q q => ?_) fun i => by simp
  obtain ⟨ds, r, ho, q⟩ := op_postK rfl q
  match ds, ho with
  | d :: ds, ho =>
    obtain ⟨bs, hb, hs⟩ := sl_end ho
    match ds, hb with
    | [.int i], hb =>
      refine tP_mono (tPsK1 q) fun v H1 h => ?_
      refine tP_mono (tPsK1 h.2) fun w H2 h2 => ?_
      obtain ⟨j, rfl⟩ := kind_int h2.1
      refine ⟨j, rfl, ?_⟩
      obtain ⟨ds, r, hq, ho, q⟩ := h2.2
      obtain ⟨d, e, rfl, h1, h3⟩ := qs2 hq
      obtain ⟨bs, hb, hs⟩ := sl_end ho
      cases e <;> try (cases hb)
      cases h3.int
      exact ⟨d, r, h1, hs, q⟩
theorem sn_sl_lo (ha : Sn X C a ea) (hb : Sn X C b eb) : Sn X C (.Subscript a (.Slice (some b) none none p2) pos) (.op (.sl true false) (.cons ea (.cons eb .nil))) := by
  refine .of (pe_weak (pe_slice sl_all ha.p (po_some hb.p) po_none) fun σ H Q q => ?_) fun i => by simp
  obtain ⟨ds, r, ho, q⟩ := op_postK rfl q
  match ds, ho with
  | d :: ds, ho =>
    obtain ⟨bs, hb, hs⟩ := sl_end ho
    match ds, hb with
    | [.int i], hb =>
      refine tP_mono (tPsK1 q) fun v H1 h => ?_
      refine tP_mono (tPsK1 h.2) fun w H2 h2 => ?_
      obtain ⟨j, rfl⟩ := kind_int h2.1
      refine ⟨j, rfl, ?_⟩
      obtain ⟨ds, r, hq, ho, q⟩ := h2.2
      obtain ⟨d, e, rfl, h1, h3⟩ := qs2 hq
      obtain ⟨bs, hb, hs⟩ := sl_end ho
      cases e <;> try (cases hb)
      cases h3.int
      exact ⟨d, r, h1, hs, q⟩
theorem sn_sl_lohi (ha : Sn X C a ea) (hb : Sn X C b eb) (hc : Sn X C c ec) : Sn X C (.Subscript a (.Slice (some b) (some c) none p2) pos) (.op (.sl true true) (.cons ea (.cons eb (.cons ec .nil)))) := by
  refine .of (pe_weak (pe_slice sl_all ha.p (po_some hb.p) (po_some hc.p)) fun σ H Q q => ?_) fun i => by simp
  obtain ⟨ds, r, ho, q⟩ := op_postK rfl q
  match ds, ho with
  | d :: ds, ho =>
    obtain ⟨bs, hb, hs⟩ := sl_end ho
    match ds, hb with
    | [.int i, .int i2], hb =>
      refine tP_mono (tPsK1 q) fun v H1 h => ?_
      refine tP_mono (tPsK1 h.2) fun w H2 h2 => ?_
      obtain ⟨j, rfl⟩ := kind_int h2.1
      refine ⟨j, rfl, ?_⟩
      refine tP_mono (tPsK1 h2.2) fun w H3 h3 => ?_
      obtain ⟨j2, rfl⟩ := kind_int h3.1
      refine ⟨j2, rfl, ?_⟩
      obtain ⟨ds, r, hq, ho, q⟩ := h3.2
      obtain ⟨d, e, f, rfl, h1, h4, h5⟩ := qs3 hq
      obtain ⟨bs, hb, hs⟩ := sl_end ho
      cases e <;> cases f <;> try (cases hb)
      cases h4.int
      cases h5.int
      exact ⟨d, r, h1, hs, q⟩
/-! ### d.get -/
theorem kind_dic {K : PySem.W.Frag} {H : Hp} {v : V} (h : ∃ d, RepQ K H d v ∧ kind d = 6) : ∃ a, v = .ref a ∧ IsD H a := by
  obtain ⟨d, r, k⟩ := h
  cases d <;> try (cases k)
  obtain ⟨a, u, kvs, rfl, g, o, _⟩ := r.dic
  obtain ⟨ks, rfl, _⟩ := dk_of o
  exact ⟨a, rfl, .inl ⟨ks, g⟩⟩
theorem sn_get {apos cpos : Pos} (hu : X.A.units + 1 < cLine) (ha : Sn X C a ea) (hb : Sn X C b eb) (m : M1 X a "get" apos b cpos) : Sn X C (.Call (.Attribute a "get" apos) [b] [] cpos) (.op .get (.cons ea (.cons eb .nil))) := by
  refine .of (pe_weak (pe_dget1 hu ha.p hb.p m) fun σ H Q q => ?_) fun i => by simp
  obtain ⟨ds, r, ho, q⟩ := op_postK rfl q
  simp only [opD] at ho
  unfold o_get at ho
  split at ho
  · rename_i kvs k
    refine tP_mono (tPsK1 q) fun v H1 h => ?_
    obtain ⟨p, rfl, hp⟩ := kind_dic h.1
    refine ⟨p, rfl, hp, tP_mono (tPsK1 h.2) fun w H2 h2 => ?_⟩
    obtain ⟨ds, r, hq, ho, q⟩ := h2.2
    obtain ⟨d, e, rfl, h1, h3⟩ := qs2 hq
    simp only [opD] at ho
    unfold o_get at ho
    split at ho
    · rename_i kvs2 k2 hh
      cases hh
      split at ho
      · rename_i hk
        cases ho
        obtain ⟨p', o, ep, g, m1, m2⟩ := dget_of hk h1 h3
        cases ep
        refine ⟨o, g, ?_⟩
        cases e1 : mlook kvs2 e with
        | none =>
          rw [e1] at q
          rw [m2 e1]
          exact flatR q rfl rfl
        | some z =>
          rw [e1] at q
          obtain ⟨w2, rfl, rw'⟩ := m1 z e1
          exact flatR q rw' rfl
      · cases ho
    · cases ho
  · cases ho
theorem sn_get2 {apos cpos : Pos} (hu : X.A.units + 1 < cLine) (ha : Sn X C a ea) (hb : Sn X C b eb) (hc : Sn X C c ec) (m : M2 X a "get" apos b c cpos) : Sn X C (.Call (.Attribute a "get" apos) [b, c] [] cpos) (.op .get2 (.cons ea (.cons eb (.cons ec .nil)))) := by
  refine .of (pe_weak (pe_dget2 hu ha.p hb.p hc.p m) fun σ H Q q => ?_) fun i => by simp
  obtain ⟨ds, r, ho, q⟩ := op_postK rfl q
  simp only [opD] at ho
  unfold o_get2 at ho
  split at ho
  · rename_i kvs k x
    refine tP_mono (tPsK1 q) fun v H1 h => ?_
    obtain ⟨p, rfl, hp⟩ := kind_dic h.1
    refine ⟨p, rfl, hp, tP_mono (tPsK1 h.2) fun w H2 h2 => tP_mono (tPsK1 h2.2) fun z H3 h4 => ?_⟩
    obtain ⟨ds, r, hq, ho, q⟩ := h4.2
    obtain ⟨d, e, f, rfl, h1, h3, h5⟩ := qs3 hq
    simp only [opD] at ho
    unfold o_get2 at ho
    split at ho
    · rename_i kvs2 k2 x2 hh
      cases hh
      split at ho
      · rename_i hk
        cases ho
        rw [Bool.and_eq_true] at hk
        obtain ⟨p', o, ep, g, m1, m2⟩ := dget_of hk.1 h1 h3
        cases ep
        refine ⟨o, g, ?_⟩
        cases e1 : mlook kvs2 e with
        | none =>
          rw [e1] at q
          rw [m2 e1]
          refine flatR q ?_ rfl
          obtain ⟨r, er, hr⟩ := h5
          cases r with
          | v d => cases er; exact hr
          | l _ => cases er; exact nomatch (show false = true from hk.2)
          | m _ => cases er; exact nomatch (show false = true from hk.2)
        | some z =>
          rw [e1] at q
          obtain ⟨w2, rfl, rw'⟩ := m1 z e1
          exact flatR q rw' rfl
      · cases ho
    · cases ho
  · cases ho

/-! ### calls of defs -/
/-- arguments as they lie -/
def RepRs (K : PySem.W.Frag) (H : Hp) : List R → List V → Prop
  | [], vs => vs = []
  | r :: rs, vs => ∃ v w, vs = v :: w ∧ RepR K H r v ∧ RepRs K H rs w
def OwnA (rs : List R) (vs : List V) (p : Addr) : Prop := ∃ (i : Nat) (r : R), rs[i]? = some r ∧ r.own = true ∧ vs[i]? = some (.ref p)
def SepA (rs : List R) (vs : List V) : Prop := ∀ (i j : Nat) (r s : R) (p : Addr), i ≠ j → rs[i]? = some r → rs[j]? = some s → r.own = true → s.own = true → vs[i]? = some (.ref p) → vs[j]? ≠ some (.ref p)
/-- what the inout arguments hold behind the call -/
def RepBs (K : PySem.W.Frag) (H : Hp) : List R → List V → List R → Prop
  | [], _, bs => bs = []
  | r :: rs, vs, bs => if r.own = true then ∃ v w b bs', vs = v :: w ∧ bs = b :: bs' ∧ b.own = true ∧ RepR K H b v ∧ RepBs K H rs w bs' else ∃ v w, vs = v :: w ∧ RepBs K H rs w bs
def PostC (K : PySem.W.Frag) (H : Hp) (rs : List R) (vs : List V) (o : CR) (Q : VK) : Prop := match o with
  | .ok r bs => ∀ v H', (∀ p u, H p = some u → ¬ OwnA rs vs p → H' p = some u) → RepR K H' r v → RepBs K H' rs vs bs → (r.own = true → ∃ p, v = .ref p ∧ H p = none) → Q v H'
  | .no => False
/-- what the f-th def promises -/
def spD (K : PySem.W.Frag) (cf : Nat → List R → CR) (n f : Nat) : Sp := fun vs H Q _ => ∃ rs, rs.length = n ∧ RepRs K H rs vs ∧ SepA rs vs ∧ PostC K H rs vs (cf f rs) Q
theorem RepRs.len {K : PySem.W.Frag} {H : Hp} : ∀ {rs : List R} {vs : List V}, RepRs K H rs vs → rs.length = vs.length
  | [], vs, h => by rw [show vs = [] from h]; rfl
  | r :: rs, vs, h => by
    obtain ⟨v, w, rfl, _, h2⟩ := h
    rw [List.length_cons, List.length_cons, RepRs.len h2]

def PendA (K : PySem.W.Frag) (H : Hp) (σ : L2.St) : List (D ⊕ Nat) → List V → Prop
  | [], vs => vs = []
  | .inl d :: as, vs => ∃ v w, vs = v :: w ∧ Rep K H d v ∧ PendA K H σ as w
  | .inr i :: as, vs => ∃ v w, vs = v :: w ∧ σ[i]? = some (some v) ∧ PendA K H σ as w
def PostAs (K : PySem.W.Frag) (σ : L2.St) (σd : Env) (H : Hp) (o : Out (List (D ⊕ Nat))) (Q : List V → Hp → Prop) : Prop := match o with
  | .ok as σ1 => ∀ vs H', RelE K H' σ1 σ → Ext (Own σd σ) (Own σ1 σ) H H' → PendA K H' σ as vs → Q vs H'
  | .no => False
def tAs (K : PySem.W.Frag) (f : Env → Out (List (D ⊕ Nat))) : TA := fun σ H Q => ∃ σd, RelE K H σd σ ∧ PostAs K σ σd H (f σd) Q
theorem PendA.mono {K : PySem.W.Frag} {H H' : Hp} {σ : L2.St} (m : Mono H H') : ∀ {as : List (D ⊕ Nat)} {vs : List V}, PendA K H σ as vs → PendA K H' σ as vs
  | [], _, h => h
  | .inl d :: as, _, h => by
    obtain ⟨v, w, e, h1, h2⟩ := h
    exact ⟨v, w, e, Rep.mono m d v h1, PendA.mono m h2⟩
  | .inr i :: as, _, h => by
    obtain ⟨v, w, e, h1, h2⟩ := h
    exact ⟨v, w, e, h1, PendA.mono m h2⟩
/-- arguments, some of them inout -/
structure SnI (X : Cx) (C : Ctx) (io : List Bool) (as : List Expr) (es : Es) : Prop where
  t : PA X as (tAs X.K (evAs C io es))
theorem SnI.nil {io : List Bool} : SnI X C io [] .nil := ⟨pa_weak pa_nil fun σ H Q q => by
  obtain ⟨σd, rel, q⟩ := q
  simp only [evAs] at q
  exact q [] H rel (Ext.refl _ _) rfl⟩
theorem SnI.val {io : List Bool} (h : Sn X C a ea) (t : SnI X C io as es) (hs : starEach (a :: as) X.env = (false, eval a X.env) :: starEach as X.env := by rfl) : SnI X C (false :: io) (a :: as) (.cons ea es) := by
  refine ⟨pa_weak (pa_cons h.d t.t hs) fun σ H Q q => ?_⟩
  obtain ⟨σd, rel, q⟩ := q
  refine ⟨σd, rel, ?_⟩
  have e0 : evAs C (false :: io) (.cons ea es) σd = (evD1 C ea σd).bind fun d σ => (evAs C io es σ).bind fun as σ => .ok (.inl d :: as) σ := by
    simp only [evAs, evD1]
    generalize ev C ea σd = o
    cases o <;> rfl
  rw [e0] at q
  cases e1 : evD1 C ea σd with
  | no => rw [e1] at q; exact q
  | ok d σ1 =>
    rw [e1] at q
    intro v H1 rel1 x1 rv
    refine ⟨σ1, rel1, ?_⟩
    simp only [Out.bind] at q
    cases e2 : evAs C io es σ1 with
    | no => rw [e2] at q; exact q
    | ok ps σ2 =>
      rw [e2] at q
      intro vs H2 rel2 x2 rvs
      exact q (v :: vs) H2 rel2 (x1.trans x2) ⟨v, vs, rfl, Rep.mono (rel1.mono x2) d v rv, rvs⟩
theorem SnI.io {io : List Bool} {i : Nat} (h : PE X a (tVar i)) (t : SnI X C io as es) (hs : starEach (a :: as) X.env = (false, eval a X.env) :: starEach as X.env := by rfl) : SnI X C (true :: io) (a :: as) (.cons (.v i) es) := by
  refine ⟨pa_weak (pa_cons h t.t hs) fun σ H Q q => ?_⟩
  obtain ⟨σd, rel, q⟩ := q
  simp only [evAs] at q
  cases g : get σd i with
  | none => rw [g] at q; exact q.elim
  | some r =>
    rw [g] at q
    obtain ⟨v, hv, rv⟩ := rel.at_ i r g
    refine ⟨v, hv, σd, rel, ?_⟩
    simp only at q
    cases e2 : evAs C io es σd with
    | no => rw [e2] at q; exact q
    | ok ps σ2 =>
      rw [e2] at q
      intro vs H2 rel2 x2 rvs
      exact q (v :: vs) H2 rel2 x2 ⟨v, vs, rfl, hv, rvs⟩
theorem noDup_of : ∀ {l : List Nat}, noDup l = true → l.Nodup
  | [], _ => List.nodup_nil
  | i :: r, h => by
    simp only [noDup, Bool.and_eq_true, Bool.not_eq_true', List.contains_eq_mem, decide_eq_false_iff_not] at h
    exact List.nodup_cons.mpr ⟨h.1, noDup_of h.2⟩
/-- the arguments at the call -/
theorem args_at {K : PySem.W.Frag} {H : Hp} {σd : Env} {σ : L2.St} (rel : RelE K H σd σ) : ∀ {as : List (D ⊕ Nat)} {vs : List V} {rs : List R}, PendA K H σ as vs → argsOf σd as = some rs →
    RepRs K H rs vs ∧ ∀ (j : Nat) (r : R), rs[j]? = some r → r.own = true → ∃ i, as[j]? = some (.inr i) ∧ get σd i = some r ∧ ∀ v, vs[j]? = some v → σ[i]? = some (some v)
  | [], vs, rs, h, e => by
    cases e
    exact ⟨h, fun j r hj => by simp at hj⟩
  | .inl d :: as, vs, rs, h, e => by
    obtain ⟨v, w, rfl, h1, h2⟩ := h
    simp only [argsOf] at e
    cases e1 : argsOf σd as with
    | none => rw [e1] at e; cases e
    | some rs' =>
      rw [e1] at e
      cases e
      obtain ⟨k1, k2⟩ := args_at rel h2 e1
      refine ⟨⟨v, w, rfl, h1, k1⟩, fun j r hj ho => ?_⟩
      cases j with
      | zero => simp at hj; subst hj; cases ho
      | succ j => exact k2 j r (by simpa using hj) ho
  | .inr i :: as, vs, rs, h, e => by
    obtain ⟨v, w, rfl, h1, h2⟩ := h
    simp only [argsOf] at e
    cases g : get σd i with
    | none => rw [g] at e; cases e
    | some r0 =>
      rw [g] at e
      simp only [Option.bind_some] at e
      split at e
      · rename_i ho0
        cases e1 : argsOf σd as with
        | none => rw [e1] at e; cases e
        | some rs' =>
          rw [e1] at e
          cases e
          obtain ⟨k1, k2⟩ := args_at rel h2 e1
          obtain ⟨v', hv', rv'⟩ := rel.at_ i r0 g
          rw [h1] at hv'
          cases hv'
          refine ⟨⟨v, w, rfl, rv', k1⟩, fun j r hj ho => ?_⟩
          cases j with
          | zero =>
            simp at hj
            subst hj
            exact ⟨i, rfl, g, fun v' e => by simp at e; subst e; exact h1⟩
          | succ j => exact k2 j r (by simpa using hj) ho
      · cases e
theorem ios_get : ∀ {as : List (D ⊕ Nat)} {j i : Nat}, as[j]? = some (.inr i) → i ∈ iosOf as
  | [], j, i, h => by simp at h
  | .inl d :: as, 0, i, h => by simp at h
  | .inl d :: as, j + 1, i, h => ios_get (as := as) (j := j) (by simpa using h)
  | .inr k :: as, 0, i, h => by
    simp at h
    subst h
    exact List.mem_cons_self
  | .inr k :: as, j + 1, i, h => List.mem_cons_of_mem _ (ios_get (as := as) (j := j) (by simpa using h))
theorem ios_inj : ∀ {as : List (D ⊕ Nat)} {j k i : Nat}, (iosOf as).Nodup → as[j]? = some (.inr i) → as[k]? = some (.inr i) → j = k
  | [], j, k, i, _, h, _ => by simp at h
  | .inl d :: as, 0, _, i, _, h, _ => by simp at h
  | .inl d :: as, _, 0, i, _, _, h => by simp at h
  | .inl d :: as, j + 1, k + 1, i, n, h1, h2 => congrArg (· + 1) (ios_inj (as := as) (j := j) (k := k) (i := i) n (by simpa using h1) (by simpa using h2))
  | .inr l :: as, 0, 0, i, _, _, _ => rfl
  | .inr l :: as, 0, k + 1, i, n, h1, h2 => by
    simp at h1
    subst h1
    exact absurd (ios_get (as := as) (j := k) (by simpa using h2)) (List.nodup_cons.mp n).1
  | .inr l :: as, j + 1, 0, i, n, h1, h2 => by
    simp at h2
    subst h2
    exact absurd (ios_get (as := as) (j := j) (by simpa using h1)) (List.nodup_cons.mp n).1
  | .inr l :: as, j + 1, k + 1, i, n, h1, h2 => congrArg (· + 1) (ios_inj (as := as) (j := j) (k := k) (i := i) (List.nodup_cons.mp n).2 (by simpa using h1) (by simpa using h2))
theorem putBacks_len : ∀ (is : List Nat) (bs : List R) (σ : Env), (putBacks is bs σ).length = σ.length
  | [], _, _ => rfl
  | _ :: _, [], _ => rfl
  | i :: is, b :: bs, σ => by unfold putBacks; rw [putBacks_len, List.length_set]
theorem putBacks_out : ∀ (is : List Nat) (bs : List R) (σ : Env) (j : Nat), j ∉ is → get (putBacks is bs σ) j = get σ j
  | [], _, _, _, _ => rfl
  | _ :: _, [], _, _, _ => rfl
  | i :: is, b :: bs, σ, j, h => by
    unfold putBacks
    rw [putBacks_out is bs _ j fun z => h (List.mem_cons_of_mem _ z), get_set_ne fun z => h (by rw [z]; exact List.mem_cons_self)]
/-- what stands in the inout slots behind the call -/
theorem putBacks_in {K : PySem.W.Frag} {H' : Hp} {σ : L2.St} : ∀ {as : List (D ⊕ Nat)} {vs : List V} {rs bs : List R} {σd σ0 : Env} {H : Hp}, PendA K H σ as vs → argsOf σd as = some rs → RepBs K H' rs vs bs → (iosOf as).Nodup → (∀ i ∈ iosOf as, i < σ0.length) →
    ∀ i ∈ iosOf as, ∃ b v, get (putBacks (iosOf as) bs σ0) i = some b ∧ b.own = true ∧ σ[i]? = some (some v) ∧ RepR K H' b v
  | [], _, _, _, _, _, _, _, _, _, _, _ => fun i hi => by cases hi
  | .inl d :: as, vs, rs, bs, σd, σ0, H, h, e, hb, n, l => by
    obtain ⟨v, w, rfl, h1, h2⟩ := h
    simp only [argsOf] at e
    cases e1 : argsOf σd as with
    | none => rw [e1] at e; cases e
    | some rs' =>
      rw [e1] at e
      cases e
      unfold RepBs at hb
      rw [if_neg (show ¬ (R.v d).own = true from fun h => nomatch h)] at hb
      obtain ⟨v', w', ev, hb⟩ := hb
      cases ev
      exact putBacks_in (as := as) h2 e1 hb n l
  | .inr k :: as, vs, rs, bs, σd, σ0, H, h, e, hb, n, l => by
    obtain ⟨v, w, rfl, h1, h2⟩ := h
    simp only [argsOf] at e
    cases g : get σd k with
    | none => rw [g] at e; cases e
    | some r0 =>
      rw [g] at e
      simp only [Option.bind_some] at e
      split at e
      · rename_i ho0
        cases e1 : argsOf σd as with
        | none => rw [e1] at e; cases e
        | some rs' =>
          rw [e1] at e
          cases e
          unfold RepBs at hb
          rw [if_pos ho0] at hb
          obtain ⟨v', w', b, bs', ev, rfl, ob, rb, hb⟩ := hb
          cases ev
          have n' := List.nodup_cons.mp n
          intro i hi
          rcases List.mem_cons.mp hi with rfl | hi
          · refine ⟨b, v, ?_, ob, h1, rb⟩
            show get (putBacks (iosOf as) bs' (σ0.set i (some b))) i = some b
            rw [putBacks_out _ _ _ _ n'.1, get_set_same (l i List.mem_cons_self)]
          · exact putBacks_in (σ0 := σ0.set k (some b)) h2 e1 hb n'.2 (fun j hj => by rw [List.length_set]; exact l j (List.mem_cons_of_mem _ hj)) i hi
      · cases e
theorem argsOf_own : ∀ {as : List (D ⊕ Nat)} {rs : List R} {σd : Env}, argsOf σd as = some rs → ∀ i ∈ iosOf as, ∃ (r : R) (j : Nat), get σd i = some r ∧ r.own = true ∧ as[j]? = some (.inr i) ∧ rs[j]? = some r
  | [], _, _, _ => fun i hi => by cases hi
  | .inl d :: as, rs, σd, e => by
    simp only [argsOf] at e
    cases e1 : argsOf σd as with
    | none => rw [e1] at e; cases e
    | some rs' =>
      rw [e1] at e
      cases e
      intro i hi
      obtain ⟨r, j, h1, h2, h3, h4⟩ := argsOf_own e1 i hi
      exact ⟨r, j + 1, h1, h2, by simpa using h3, by simpa using h4⟩
  | .inr k :: as, rs, σd, e => by
    simp only [argsOf] at e
    cases g : get σd k with
    | none => rw [g] at e; cases e
    | some r0 =>
      rw [g] at e
      simp only [Option.bind_some] at e
      split at e
      · rename_i ho0
        cases e1 : argsOf σd as with
        | none => rw [e1] at e; cases e
        | some rs' =>
          rw [e1] at e
          cases e
          intro i hi
          rcases List.mem_cons.mp hi with rfl | hi
          · exact ⟨r0, 0, g, ho0, rfl, rfl⟩
          · obtain ⟨r, j, h1, h2, h3, h4⟩ := argsOf_own e1 i hi
            exact ⟨r, j + 1, h1, h2, by simpa using h3, by simpa using h4⟩
      · cases e
theorem pendA_get {K : PySem.W.Frag} {H : Hp} {σ : L2.St} : ∀ {as : List (D ⊕ Nat)} {vs : List V} {j i : Nat}, PendA K H σ as vs → as[j]? = some (.inr i) → ∃ v, vs[j]? = some v ∧ σ[i]? = some (some v)
  | [], _, j, i, _, h => by simp at h
  | .inl d :: as, _, 0, i, _, h => by simp at h
  | .inl d :: as, _, j + 1, i, h, e => by
    obtain ⟨v, w, rfl, h1, h2⟩ := h
    obtain ⟨x, k1, k2⟩ := pendA_get (j := j) h2 (by simpa using e)
    exact ⟨x, by simpa using k1, k2⟩
  | .inr k :: as, _, 0, i, h, e => by
    obtain ⟨v, w, rfl, h1, h2⟩ := h
    simp at e
    subst e
    exact ⟨v, rfl, h1⟩
  | .inr k :: as, _, j + 1, i, h, e => by
    obtain ⟨v, w, rfl, h1, h2⟩ := h
    obtain ⟨x, k1, k2⟩ := pendA_get (j := j) h2 (by simpa using e)
    exact ⟨x, by simpa using k1, k2⟩
/-- behind the arguments: the call -/
theorem call_post {K : PySem.W.Frag} {f n : Nat} {σ : L2.St} {H : Hp} {Q : VK} (hn : ∀ rs, C.cf f rs ≠ .no → rs.length = n) (q : tR K (ev C (.call f es)) σ H Q) : tAs K (evAs C (C.io f) es) σ H fun vs H1 => spD K C.cf n f vs H1 Q (fun _ _ _ => False) := by
  obtain ⟨σd, rel, q⟩ := q
  refine ⟨σd, rel, ?_⟩
  simp only [ev] at q
  cases e1 : evAs C (C.io f) es σd with
  | no => rw [e1] at q; exact q
  | ok as σ1 =>
    rw [e1] at q
    simp only [Out.bind] at q
    intro vs H1 rel1 x1 pa
    cases e2 : argsOf σ1 as with
    | none => rw [e2] at q; exact q.elim
    | some rs =>
      rw [e2] at q
      simp only at q
      split at q
      · rename_i nd
        have nd' := noDup_of nd
        obtain ⟨k1, k2⟩ := args_at rel1 pa e2
        have own1 : ∀ p, OwnA rs vs p → Own σ1 σ p := fun p ⟨j, r, h1, h2, h3⟩ => by
          obtain ⟨i, _, g, hv⟩ := k2 j r h1 h2
          exact ⟨i, r, g, h2, hv _ h3⟩
        cases e3 : C.cf f rs with
        | no => rw [e3] at q; exact q.elim
        | ok r bs =>
          rw [e3] at q
          simp only at q
          refine ⟨rs, hn rs (by rw [e3]; simp), k1, ?_, ?_⟩
          · intro i j r1 r2 p ne h1 h2 o1 o2 v1 v2
            obtain ⟨i', a1, g1, w1⟩ := k2 i r1 h1 o1
            obtain ⟨j', a2, g2, w2⟩ := k2 j r2 h2 o2
            refine rel1.sep i' j' r1 r2 p (fun z => ?_) g1 g2 o1 o2 (w1 _ v1) (w2 _ v2)
            subst z
            exact ne (ios_inj nd' a1 a2)
          · rw [e3]
            intro v H2 keep rv rb fresh
            have mo : Mono H1 H2 := fun p u e f => keep p u e fun z => by
              obtain ⟨u', e', m⟩ := rel1.own (own1 p z)
              rw [e] at e'
              cases e'
              exact f.nmut m
            have inI := putBacks_in (K := K) (H' := H2) (σ0 := σ1) pa e2 rb nd' (fun i hi => by
              obtain ⟨r, j, g, _⟩ := argsOf_own e2 i hi
              exact get_lt g)
            have rel2 : RelE K H2 (putBacks (iosOf as) bs σ1) σ := by
              refine ⟨by rw [putBacks_len]; exact rel1.len, fun j s g => ?_, ?_⟩
              · by_cases hj : j ∈ iosOf as
                · obtain ⟨b, w, g2, ob, hw, rw'⟩ := inI j hj
                  rw [g2] at g
                  cases g
                  exact ⟨w, hw, rw'⟩
                · rw [putBacks_out _ _ _ _ hj] at g
                  obtain ⟨w, hw, rw'⟩ := rel1.at_ j s g
                  refine ⟨w, hw, rw'.keep mo fun p u ew hp os => keep p u hp fun z => ?_⟩
                  obtain ⟨k, t, h1, h2, h3⟩ := z
                  obtain ⟨i', a1, g1, w1⟩ := k2 k t h1 h2
                  subst ew
                  exact rel1.sep i' j t s p (fun z => hj (z ▸ ios_get a1)) g1 g h2 os (w1 _ h3) hw
              · have back : ∀ j s, get (putBacks (iosOf as) bs σ1) j = some s → s.own = true → ∃ s', get σ1 j = some s' ∧ s'.own = true := fun j s g os => by
                  by_cases hj : j ∈ iosOf as
                  · obtain ⟨r, _, g', o', _⟩ := argsOf_own e2 j hj
                    exact ⟨r, g', o'⟩
                  · rw [putBacks_out _ _ _ _ hj] at g
                    exact ⟨s, g, os⟩
                intro i j s t p ne g1 g2 o1 o2
                obtain ⟨s', g1', o1'⟩ := back i s g1 o1
                obtain ⟨t', g2', o2'⟩ := back j t g2 o2
                exact rel1.sep i j s' t' p ne g1' g2' o1' o2'
            have ownB : ∀ p, Own (putBacks (iosOf as) bs σ1) σ p → Own σ1 σ p := fun p ⟨j, s, g, os, hs⟩ => by
              by_cases hj : j ∈ iosOf as
              · obtain ⟨r, _, g', o', _⟩ := argsOf_own e2 j hj
                exact ⟨j, r, g', o', hs⟩
              · rw [putBacks_out _ _ _ _ hj] at g
                exact ⟨j, s, g, os, hs⟩
            have x2 : Ext (Own σ1 σ) (fun p => Own (putBacks (iosOf as) bs σ1) σ p ∨ (r.own = true ∧ v = .ref p)) H1 H2 := by
              refine ⟨fun p u e n => keep p u e fun z => n (own1 p z), fun p h => ?_⟩
              rcases h with h | ⟨ho, ev⟩
              · exact .inl (ownB p h)
              · obtain ⟨p', ep, np⟩ := fresh ho
                rw [ev] at ep
                cases ep
                exact .inr np
            refine q v H2 rel2 (x1.trans x2) rv fun p ho ev o2 => ?_
            obtain ⟨p', ep, np⟩ := fresh ho
            rw [ev] at ep
            cases ep
            exact own_new rel1 np (ownB p o2)
      · exact q.elim
/-- a def of the program, as it is called -/
structure Cl (X : Cx) (C : Ctx) (k : Nat) (x : Str) (f n : Nat) : Prop where
  fn : ∃ (fa : Addr) (fd : FuncData) (ps : List Str), FnOk X.prog X.w X.K X.mg X.base CX0 k fa fd ps (spD X.K C.cf n f) ∧ X.mg x = some (.ref fa) ∧ PySem.W.keepIn X.K (.ref fa) = true ∧ Binds X.K fd ps []
  ar : ∀ rs, C.cf f rs ≠ .no → rs.length = n
theorem sn_call {k f n : Nat} {x : Str} {p : Pos} {io : List Bool} (c : Cl X C k x f n) (hio : C.io f = io) (hr : Room k X.A) (hg : Gl X x) (ha : SnI X C io (a :: as) es) (hdb : (x == ("__debug__" : Str)) = false := by decide)
    (he : starEach (a :: as) X.env = (false, eval a X.env) :: starEach as X.env := by rfl) (hpl : (backTo pos (starEach as X.env)).any (·.1) = false := by rfl) : Sn X C (.Call (.Name x p) (a :: as) [] pos) (.call f es) := by
  obtain ⟨fa, fd, ps, F, hm, hk, hb⟩ := c.fn
  refine .of (pe_weak (pe_call F hr hg hm hk hb .nil pass0 ha.t hdb he hpl) fun σ H Q q => ?_) fun i => by simp
  subst hio
  have h := call_post c.ar q
  obtain ⟨σd, rel, h⟩ := h
  refine ⟨σd, rel, ?_⟩
  cases e : evAs C (C.io f) es σd with
  | no => rw [e] at h; exact h
  | ok as σ1 =>
    rw [e] at h
    intro vs H' r x pa
    rw [List.append_nil]
    exact h vs H' r x pa
end
end Pv
end
section
/-! PvH: what a for walks, targets, comprehensions. -/
namespace Pv
open PySem PySem.Spec PyProof.Rows L2 RZ

/-- J walks the data ds, as long as what never changes stays -/
def T.isT : T → Bool
  | .v _ => false
  | .t _ => true
/-- an item for a target: a tuple that is taken apart at once may be any tuple -/
def RepI (K : PySem.W.Frag) (tup : Bool) (H : Hp) (d : D) (v : V) : Prop := Rep K H d v ∨ (tup = true ∧ ∃ l a vs, d = .tup l ∧ v = .ref a ∧ SqT K H a vs ∧ Reps K H l vs)
structure Wk (K : PySem.W.Frag) (tup : Bool) (J : L2.It) (ds : List D) (H : Hp) : Prop where
  go : ∀ i H', Mono H H' → i < ds.length → J.go i H'
  stop : ∀ H', Mono H H' → J.stop ds.length H'
  yld : ∀ i x H' H'', Mono H H' → J.yld i H' x H'' → ∀ d, ds[i]? = some d → RepI K tup H'' d x ∧ ∀ a u, H' a = some u → H'' a = some u
def tIt (K : PySem.W.Frag) (tup : Bool) (f : Env → Out (List D)) : TI := fun σ H R => ∃ σd, RelE K H σd σ ∧ match f σd with
  | .ok ds σ1 => ∀ J H', RelE K H' σ1 σ → Ext (Own σd σ) (Own σ1 σ) H H' → Wk K tup J ds H' → R J H'
  | .no => False
section
variable {X : Cx} {C : Ctx} {tg iter : Expr} {tup : Bool}
theorem pi_weak {wi wi' : TI} (h : PI X tg iter wi) (w : ∀ σ H R, wi' σ H R → wi σ H R) : PI X tg iter wi' := ⟨fun pins s σ H R I q => h.run pins s σ H R I (w σ H R q)⟩
theorem PI.or {w1 w2 : TI} (h1 : PI X tg iter w1) (h2 : PI X tg iter w2) : PI X tg iter (fun σ H R => w1 σ H R ∨ w2 σ H R) := ⟨fun pins s σ H R I q => q.elim (fun q => h1.run pins s σ H R I q) fun q => h2.run pins s σ H R I q⟩
/-- the source of a for -/
def srcOf (C : Ctx) (k : It) (es : Es) (σ : Env) : Out (List D) := (evDs C es σ).bind fun qs σ => ofO (walk k qs) σ
structure SnIt (X : Cx) (C : Ctx) (tg iter : Expr) (tup : Bool) (k : It) (es : Es) : Prop where
  i : PI X tg iter (tIt X.K tup (srcOf C k es))

/-! ### how the iterators walk -/
section
variable {K : PySem.W.Frag} {H : Hp} {tup : Bool}
theorem wk_tup {a : Addr} {vs : List V} {ds : List D} (s1 : SqT K H a vs) (r1 : Reps K H ds vs) : Wk K tup (Itt K a) ds H := by
  have hl := r1.len
  refine ⟨fun i H' m h => ?_, fun H' m => ?_, fun i x H' H'' m y d hd => ?_⟩
  · exact ⟨vs, vs[i]'(by omega), Pv.SqT.mono m s1, List.getElem?_eq_getElem (by omega)⟩
  · exact ⟨vs, Pv.SqT.mono m s1, by omega⟩
  · obtain ⟨rfl, f⟩ := y
    have e := f vs (Pv.SqT.mono m s1)
    obtain ⟨v, hv, rv⟩ := r1.get hd
    rw [hv] at e
    cases e
    exact ⟨.inl (Rep.mono m d _ rv), fun _ _ h => h⟩
theorem SqL.ofF {a : Addr} {vs : List V} (h : FzL H a vs) : SqL K H a vs := .inl h.rd
theorem wk_lst {a : Addr} {vs : List V} {ds : List D} (s1 : FzL H a vs) (r1 : Reps K H ds vs) : Wk K tup (Itl K a) ds H := by
  have hl := r1.len
  refine ⟨fun i H' m h => ?_, fun H' m => ?_, fun i x H' H'' m y d hd => ?_⟩
  · exact ⟨vs, vs[i]'(by omega), SqL.ofF (Pv.FzL.mono m s1), List.getElem?_eq_getElem (by omega)⟩
  · exact ⟨vs, SqL.ofF (Pv.FzL.mono m s1), by omega⟩
  · obtain ⟨rfl, f⟩ := y
    have e := f vs (SqL.ofF (Pv.FzL.mono m s1))
    obtain ⟨v, hv, rv⟩ := r1.get hd
    rw [hv] at e
    cases e
    exact ⟨.inl (Rep.mono m d _ rv), fun _ _ h => h⟩
theorem wk_keys {a : Addr} {o : Obj} {ks : List (Key × V)} {l : List (D × D)} (s1 : H a = some (.frz o (.dK ks))) (r1 : RepP K H l (ks.map fun p => (keyD p.1, p.2))) : Wk K tup (Itk a o ks) (l.map (·.1)) H := by
  obtain ⟨k1, k2⟩ := keys_rep r1
  have hl := r1.len
  rw [List.length_map] at hl
  refine ⟨fun i H' m h => ?_, fun H' m => ?_, fun i x H' H'' m y d hd => ?_⟩
  · rw [List.length_map] at h
    exact ⟨m _ _ s1 trivial, by omega⟩
  · rw [List.length_map]
    exact ⟨m _ _ s1 trivial, by omega⟩
  · obtain ⟨rfl, k, v, hk, rfl⟩ := y
    obtain ⟨w, hw, rw'⟩ := k1.get hd
    rw [List.getElem?_map, hk] at hw
    cases hw
    exact ⟨.inl (Rep.mono m d _ rw'), fun _ _ h => h⟩
theorem wk_str (s : List Nat) : Wk K tup (Its (st s)) (s.map fun c => .str [c]) H := by
  refine ⟨fun i H' m h => ?_, fun H' m => ?_, fun i x H' H'' m y d hd => ?_⟩
  · rw [List.length_map] at h
    simpa [Its, st] using h
  · simp [Its, st]
  · obtain ⟨rfl, c, hc, rfl⟩ := y
    rw [List.getElem?_map] at hd
    have : s[i]? = some c := by simpa [st] using hc
    rw [this] at hd
    cases hd
    exact ⟨.inl rfl, fun _ _ h => h⟩
theorem wk_range {a b : Int} {n : Nat} (hn : n = (b - a).toNat) : Wk K tup (Itr a n) (rangeD a b) H := by
  have hl : (rangeD a b).length = n := by simp [rangeD, hn]
  refine ⟨fun i H' m h => ?_, fun H' m => ?_, fun i x H' H'' m y d hd => ?_⟩
  · rw [hl] at h
    exact h
  · rw [hl]
    exact Nat.le_refl _
  · obtain ⟨rfl, rfl⟩ := y
    have hi : i < n := by
      have := (List.getElem?_eq_some_iff.mp hd).1
      omega
    unfold rangeD at hd
    rw [List.getElem?_map, List.getElem?_range (by omega)] at hd
    cases hd
    exact ⟨.inl rfl, fun _ _ h => h⟩
theorem zip_get : ∀ {l m : List D} {i : Nat} {d : D}, (zipD l m)[i]? = some d → ∃ a b, l[i]? = some a ∧ m[i]? = some b ∧ d = .tup [a, b]
  | [], m, i, d, h => by simp [zipD] at h
  | a :: l, [], i, d, h => by simp [zipD] at h
  | a :: l, b :: m, 0, d, h => by simp [zipD] at h; exact ⟨a, b, rfl, rfl, h.symm⟩
  | a :: l, b :: m, i + 1, d, h => by
    obtain ⟨x, y, h1, h2, h3⟩ := zip_get (l := l) (m := m) (i := i) (by simpa [zipD] using h)
    exact ⟨x, y, by simpa using h1, by simpa using h2, h3⟩
theorem zip_len : ∀ l m : List D, (zipD l m).length = min l.length m.length
  | [], m => by simp [zipD]
  | a :: l, [] => by simp [zipD]
  | a :: l, b :: m => by simp only [zipD, List.length_cons, zip_len l m]; omega
theorem upd_keep {T : Addr} {u : HO} (n : H T = none) : ∀ a w, H a = some w → upd H T u a = some w := fun a w h => by
  rw [upd_ne (ne_of_none h n)]
  exact h
theorem pair_rep {H' : Hp} {T : Addr} {a b : D} {x y : V} (n : H' T = none) (ha : Rep K H' a x) (hb : Rep K H' b y) : RepI K true (upd H' T (.tup [x, y])) (.tup [a, b]) (.ref T) := by
  have m : Mono H' (upd H' T (.tup [x, y])) := fun p u h _ => upd_keep n p u h
  exact .inr ⟨rfl, _, T, [x, y], rfl, rfl, SqT.of upd_same, x, [y], rfl, Rep.mono m _ _ ha, y, [], rfl, Rep.mono m _ _ hb, rfl⟩
theorem wk_zipT {a b : Addr} {vs ws : List V} {l m : List D} (s1 : SqT K H a vs) (r1 : Reps K H l vs) (s2 : SqT K H b ws) (r2 : Reps K H m ws) : Wk K true (ItzT K a b) (zipD l m) H := by
  have h1 := r1.len
  have h2 := r2.len
  have hl := zip_len l m
  refine ⟨fun i H' mo h => ?_, fun H' mo => ?_, fun i x H' H'' mo y d hd => ?_⟩
  · exact ⟨vs, ws, vs[i]'(by omega), ws[i]'(by omega), Pv.SqT.mono mo s1, Pv.SqT.mono mo s2, List.getElem?_eq_getElem (by omega), List.getElem?_eq_getElem (by omega)⟩
  · exact ⟨vs, ws, Pv.SqT.mono mo s1, Pv.SqT.mono mo s2, by omega⟩
  · obtain ⟨T, p, q, rfl, nT, rfl, f1, f2⟩ := y
    obtain ⟨da, db, e1, e2, rfl⟩ := zip_get hd
    obtain ⟨v, hv, rv⟩ := r1.get e1
    obtain ⟨w, hw, rw'⟩ := r2.get e2
    have g1 := f1 vs (Pv.SqT.mono mo s1)
    have g2 := f2 ws (Pv.SqT.mono mo s2)
    rw [hv] at g1
    rw [hw] at g2
    cases g1
    cases g2
    exact ⟨pair_rep nT (Rep.mono mo _ _ rv) (Rep.mono mo _ _ rw'), upd_keep nT⟩
theorem wk_zipL {a b : Addr} {vs ws : List V} {l m : List D} (s1 : FzL H a vs) (r1 : Reps K H l vs) (s2 : FzL H b ws) (r2 : Reps K H m ws) : Wk K true (Itz K a b) (zipD l m) H := by
  have h1 := r1.len
  have h2 := r2.len
  have hl := zip_len l m
  refine ⟨fun i H' mo h => ?_, fun H' mo => ?_, fun i x H' H'' mo y d hd => ?_⟩
  · exact ⟨vs, ws, vs[i]'(by omega), ws[i]'(by omega), SqL.ofF (Pv.FzL.mono mo s1), SqL.ofF (Pv.FzL.mono mo s2), List.getElem?_eq_getElem (by omega), List.getElem?_eq_getElem (by omega)⟩
  · exact ⟨vs, ws, SqL.ofF (Pv.FzL.mono mo s1), SqL.ofF (Pv.FzL.mono mo s2), by omega⟩
  · obtain ⟨T, p, q, rfl, nT, rfl, f1, f2⟩ := y
    obtain ⟨da, db, e1, e2, rfl⟩ := zip_get hd
    obtain ⟨v, hv, rv⟩ := r1.get e1
    obtain ⟨w, hw, rw'⟩ := r2.get e2
    have g1 := f1 vs (SqL.ofF (Pv.FzL.mono mo s1))
    have g2 := f2 ws (SqL.ofF (Pv.FzL.mono mo s2))
    rw [hv] at g1
    rw [hw] at g2
    cases g1
    cases g2
    exact ⟨pair_rep nT (Rep.mono mo _ _ rv) (Rep.mono mo _ _ rw'), upd_keep nT⟩
end
/-- a source's reading by its data -/
theorem src_val {e : E} {σ : L2.St} {H : Hp} {R : L2.It → Hp → Prop} (q : tIt X.K tup (srcOf C .val (.cons e .nil)) σ H R) : ∃ σd, RelE X.K H σd σ ∧ ∃ d σ1 ds, evD1 C e σd = .ok d σ1 ∧ itemsOf d = some ds ∧
    ∀ J H', RelE X.K H' σ1 σ → Ext (Own σd σ) (Own σ1 σ) H H' → Wk X.K tup J ds H' → R J H' := by
  obtain ⟨σd, rel, q⟩ := q
  refine ⟨σd, rel, ?_⟩
  unfold srcOf at q
  rw [evDs_cons] at q
  cases e1 : evD1 C e σd with
  | no => rw [e1] at q; exact q.elim
  | ok d σ1 =>
    rw [e1] at q
    simp only [Out.bind, evDs, walk, wVal] at q
    cases e2 : itemsOf d with
    | none => rw [e2] at q; exact q.elim
    | some ds =>
      rw [e2] at q
      exact ⟨d, σ1, ds, rfl, e2, q⟩
theorem snIt_val {a : Expr} {e : E} (h : Sn X C a e) : SnIt X C tg a tup .val (.cons e .nil) := by
  refine ⟨pi_weak (PI.or (pi_tup h.d) (PI.or (pi_list h.d) (PI.or (pi_keys h.d) (pi_str h.d)))) fun σ H R q => ?_⟩
  obtain ⟨σd, rel, d, σ1, ds, e1, e2, q⟩ := src_val q
  cases d <;> simp only [itemsOf] at e2 <;> cases e2
  · refine .inr (.inr (.inr ⟨σd, rel, ?_⟩))
    rw [e1]
    intro v H' r x rv
    exact ⟨_, rv, q _ H' r x (wk_str _)⟩
  · refine .inl ⟨σd, rel, ?_⟩
    rw [e1]
    intro v H' r x rv
    obtain ⟨a, vs, rfl, s1, r1⟩ := rv
    exact ⟨a, rfl, ⟨vs, s1.sq⟩, q _ H' r x (wk_tup s1.sq r1)⟩
  · refine .inr (.inl ⟨σd, rel, ?_⟩)
    rw [e1]
    intro v H' r x rv
    obtain ⟨a, vs, rfl, s1, r1⟩ := rv
    exact ⟨a, rfl, ⟨vs, SqL.ofF s1⟩, q _ H' r x (wk_lst s1 r1)⟩
  · refine .inr (.inr (.inl ⟨σd, rel, ?_⟩))
    rw [e1]
    intro v H' r x rv
    obtain ⟨a, o, u, kvs, rfl, s1, o1, r1⟩ := rv
    obtain ⟨ks, rfl, rfl⟩ := dk_of o1
    exact ⟨a, o, rfl, .inl ⟨ks, s1, q _ H' r x (wk_keys s1 r1)⟩⟩
theorem src_many {k : It} {es : Es} {σ : L2.St} {H : Hp} {R : L2.It → Hp → Prop} (q : tIt X.K tup (srcOf C k es) σ H R) : tDs X.K (evDs C es) σ H fun vs H1 => ∃ qs ds, Reps X.K H1 qs vs ∧ walk k qs = some ds ∧ ∀ J, Wk X.K tup J ds H1 → R J H1 := by
  obtain ⟨σd, rel, q⟩ := q
  refine ⟨σd, rel, ?_⟩
  unfold srcOf at q
  cases e1 : evDs C es σd with
  | no => rw [e1] at q; exact q.elim
  | ok qs σ1 =>
    rw [e1] at q
    simp only [Out.bind] at q
    cases e2 : walk k qs with
    | none => rw [e2] at q; exact q.elim
    | some ds =>
      rw [e2] at q
      intro vs H' r x rv
      exact ⟨qs, ds, rv, e2, fun J w => q J H' r x w⟩
theorem inR_of {i : Int} (h : inR i = true) : -(2 ^ 62) ≤ i ∧ i < 2 ^ 62 := by
  unfold inR at h
  simpa using h
theorem snIt_range1 {a : Expr} {es : Es} {p pos : Pos} (hg : Gl X "range") (hm : X.mg "range" = none) (ha : SnA X C [a] es) (hs : starEach [a] X.env = [(false, eval a X.env)] := by rfl) : SnIt X C tg (.Call (.Name "range" p) [a] [] pos) tup .range es := by
  refine ⟨pi_weak (pi_range1 hg hm ha.d hs) fun σ H R q => tDs_mono (src_many q) fun vs H1 h => ?_⟩
  obtain ⟨qs, ds, rq, hw, q⟩ := h
  simp only [walk] at hw
  unfold wRange at hw
  split at hw
  · rename_i b
    split at hw
    · rename_i hb
      cases hw
      obtain ⟨v, w, rfl, h1, h2⟩ := rq
      cases (show w = [] from h2)
      cases (show v = .int b from h1)
      obtain ⟨h3, h4⟩ := inR_of hb
      exact ⟨b, rfl, h3, h4, q _ (wk_range (by simp))⟩
    · cases hw
  · cases hw
theorem snIt_range2 {a b : Expr} {es : Es} {p pos : Pos} (hg : Gl X "range") (hm : X.mg "range" = none) (ha : SnA X C [a, b] es) (hs : starEach [a, b] X.env = [(false, eval a X.env), (false, eval b X.env)] := by rfl) (hs2 : starEach [b] X.env = [(false, eval b X.env)] := by rfl) : SnIt X C tg (.Call (.Name "range" p) [a, b] [] pos) tup .range2 es := by
  refine ⟨pi_weak (pi_range2 hg hm ha.d hs hs2) fun σ H R q => tDs_mono (src_many q) fun vs H1 h => ?_⟩
  obtain ⟨qs, ds, rq, hw, q⟩ := h
  simp only [walk] at hw
  unfold wRange2 at hw
  split at hw
  · rename_i a b
    split at hw
    · rename_i hb
      cases hw
      obtain ⟨v, w, rfl, h1, v2, w2, rfl, h2, h3⟩ := rq
      cases (show w2 = [] from h3)
      cases (show v = .int a from h1)
      cases (show v2 = .int b from h2)
      rw [Bool.and_eq_true] at hb
      obtain ⟨g1, g2⟩ := inR_of hb.1
      obtain ⟨g3, g4⟩ := inR_of hb.2
      exact ⟨a, b, rfl, ⟨g1, g2, g3, g4⟩, q _ (wk_range rfl)⟩
    · cases hw
  · cases hw
theorem snIt_zip {a b : Expr} {es : Es} {p pos tpos : Pos} {elts : List Expr} {kk : Nat} (hg : Gl X "zip") (hm : X.mg "zip" = none) (ha : SnA X C [a, b] es)
    (hs : starEach [a, b] X.env = (false, eval a X.env) :: starEach [b] X.env := by rfl) (hpl : (backTo pos (starEach [b] X.env)).any (·.1) = false := by rfl) : SnIt X C (.Tuple elts kk tpos) (.Call (.Name "zip" p) [a, b] [] pos) true .zip es := by
  refine ⟨pi_weak (pi_zipA hg hm ha.d hs hpl) fun σ H R q => tDs_mono (src_many q) fun vs H1 h => ?_⟩
  obtain ⟨qs, ds, rq, hw, q⟩ := h
  simp only [walk] at hw
  unfold wZip at hw
  split at hw
  · rename_i l m
    cases hw
    obtain ⟨v, w, rfl, ⟨a, vs, rfl, s1, r1⟩, v2, w2, rfl, ⟨b, ws, rfl, s2, r2⟩, h3⟩ := rq
    cases (show w2 = [] from h3)
    exact ⟨a, b, vs, ws, rfl, .inr ⟨s1.sq, s2.sq, q _ (wk_zipT s1.sq r1 s2.sq r2)⟩⟩
  · rename_i l m
    cases hw
    obtain ⟨v, w, rfl, ⟨a, vs, rfl, s1, r1⟩, v2, w2, rfl, ⟨b, ws, rfl, s2, r2⟩, h3⟩ := rq
    cases (show w2 = [] from h3)
    exact ⟨a, b, vs, ws, rfl, .inl ⟨SqL.ofF s1, SqL.ofF s2, q _ (wk_zipL s1 r1 s2 r2)⟩⟩
  · cases hw

/-! ### targets -/
/-- the slots of σ' are those of σ but for some -/
def But (is : List Nat) (σ σ' : L2.St) : Prop := σ'.length = σ.length ∧ ∀ j, j ∉ is → σ'[j]? = σ[j]?
theorem But.refl (is : List Nat) (σ : L2.St) : But is σ σ := ⟨rfl, fun _ _ => rfl⟩
theorem But.trans {is js : List Nat} {σ σ1 σ2 : L2.St} (h : But is σ σ1) (h2 : But js σ1 σ2) : But (is ++ js) σ σ2 :=
  ⟨h2.1.trans h.1, fun j n => (h2.2 j fun z => n (List.mem_append_right _ z)).trans (h.2 j fun z => n (List.mem_append_left _ z))⟩
def tG (K : PySem.W.Frag) (t : T) : TG := fun v σ H Q => ∃ σd d σ1, RelE K H σd σ ∧ RepI K t.isT H d v ∧ assign t (.v d) σd = some σ1 ∧ ∀ σ', RelE K H σ1 σ' → (∀ p, Own σ1 σ' p → Own σd σ p) → But t.slots σ σ' → Q σ' H
def tGs (K : PySem.W.Frag) (ts : List T) : TGs := fun vs σ H Q => ∃ σd ds σ1, RelE K H σd σ ∧ Reps K H ds vs ∧ assigns ts ds σd = some σ1 ∧ ∀ σ', RelE K H σ1 σ' → (∀ p, Own σ1 σ' p → Own σd σ p) → But (T.slotss ts) σ σ' → Q σ' H
theorem pg_weak {tg : Expr} {g g' : TG} (h : PG X tg g) (w : ∀ v σ H Q, g' v σ H Q → g v σ H Q) : PG X tg g' := by
  obtain ⟨h⟩ := h
  exact ⟨by intros; apply h <;> first | assumption | (apply w; assumption)⟩
structure SnG (X : Cx) (tg : Expr) (t : T) : Prop where
  g : PG X tg (tG X.K t)
structure SnGs (X : Cx) (tgs : List Expr) (ts : List T) : Prop where
  g : PGs X tgs (tGs X.K ts)
theorem snG_name {i : Nat} {x : Str} {pos : Pos} (h : PG X (.Name x pos) (gName i)) : SnG X (.Name x pos) (.v i) := by
  refine ⟨pg_weak h fun v σ H Q q => ?_⟩
  obtain ⟨σd, d, σ1, rel, rv, ha, q⟩ := q
  simp only [assign] at ha
  split at ha
  · rename_i hl
    cases ha
    have hl' : i < σ.length := by rw [← rel.len]; exact hl
    have rv : Rep X.K H d v := rv.resolve_right fun z => nomatch z.1
    refine q _ (rel.setV hl' rv) (fun p o => Own.setV hl o) ⟨by rw [List.length_set], fun j n => ?_⟩
    rw [List.getElem?_set_ne (fun z => n (by simp [T.slots, z]))]
  · cases ha
theorem pgs_weak {tgs : List Expr} {g g' : TGs} (h : PGs X tgs g) (w : ∀ v σ H Q, g' v σ H Q → g v σ H Q) : PGs X tgs g' := by
  obtain ⟨h⟩ := h
  exact ⟨by intros; apply h <;> first | assumption | (apply w; assumption)⟩
theorem snGs_nil : SnGs X [] [] := by
  refine ⟨pgs_weak pgs_nil fun vs σ H Q q => ?_⟩
  obtain ⟨σd, ds, σ1, rel, rv, ha, q⟩ := q
  cases ds with
  | nil =>
    cases ha
    exact ⟨rv, q σ rel (fun _ o => o) (But.refl _ _)⟩
  | cons d ds => cases ha
theorem snGs_cons {tg : Expr} {tgs : List Expr} {t : T} {ts : List T} (h : SnG X tg t) (hs : SnGs X tgs ts) (he : (assignEach (tg :: tgs) X.env).map (·.2) = PySem.assign tg X.env :: (assignEach tgs X.env).map (·.2) := by rfl) : SnGs X (tg :: tgs) (t :: ts) := by
  refine ⟨pgs_weak (pgs_cons h.g hs.g he) fun vs σ H Q q => ?_⟩
  obtain ⟨σd, ds, σ1, rel, rv, ha, q⟩ := q
  cases ds with
  | nil => cases ha
  | cons d ds =>
    obtain ⟨v, w, rfl, h1, h2⟩ := rv
    simp only [assigns] at ha
    cases e : assign t (.v d) σd with
    | none => rw [e] at ha; cases ha
    | some σ2 =>
      rw [e] at ha
      refine ⟨v, w, rfl, σd, d, σ2, rel, .inl h1, e, fun σ' rel' o' b' => ?_⟩
      refine ⟨σ2, ds, σ1, rel', h2, ha, fun σ'' rel'' o'' b'' => ?_⟩
      exact q σ'' rel'' (fun p o => o' p (o'' p o)) (b'.trans b'')
theorem snG_tup {tgs : List Expr} {k : Nat} {ts : List T} {pos : Pos} (hc : X.calm = true) (hs : SnGs X tgs ts) (hn : (assignEach tgs X.env).length = ts.length := by rfl) (hst : (assignEach tgs X.env).findIdx? (·.1) = none := by rfl) : SnG X (.Tuple tgs k pos) (.t ts) := by
  refine ⟨pg_weak (pg_tup hc hs.g hn hst) fun v σ H Q q => ?_⟩
  obtain ⟨σd, d, σ1, rel, rv, ha, q⟩ := q
  simp only [assign] at ha
  split at ha
  · rename_i l hh
    cases hh
    obtain ⟨a, vs, rfl, s1, r1⟩ : ∃ a vs, v = .ref a ∧ SqT X.K H a vs ∧ Reps X.K H l vs := by
      rcases rv with ⟨a, vs, e, s1, r1⟩ | ⟨_, l', a, vs, e1, e2, s1, r1⟩
      · exact ⟨a, vs, e, s1.sq, r1⟩
      · cases e1; exact ⟨a, vs, e2, s1, r1⟩
    refine ⟨a, vs, rfl, s1, ?_, σd, l, σ1, rel, r1, ha, q⟩
    have : ∀ {ts : List T} {l : List D} {σ σ1 : Env}, assigns ts l σ = some σ1 → ts.length = l.length := by
      intro ts
      induction ts with
      | nil => intro l σ σ1 h; cases l with | nil => rfl | cons => cases h
      | cons t ts ih =>
        intro l σ σ1 h
        cases l with
        | nil => cases h
        | cons d l =>
          simp only [assigns] at h
          cases e : assign t (.v d) σ with
          | none => rw [e] at h; cases h
          | some σ2 => rw [e] at h; rw [List.length_cons, List.length_cons, ih h]
    rw [← r1.len, this ha]
  · cases ha
end
end Pv
end
section
/-! PvI: comprehensions. -/
namespace Pv
open PySem PySem.Spec PyProof.Rows L2 RZ

section
variable {K : PySem.W.Frag} {H H' : Hp}
theorem RelE.updOut {σd : Env} {σ : L2.St} (e : RelE K H σd σ) {a : Addr} {u w : HO} (hu : H a = some u) (mu : Mut (some u)) (n : ¬ Own σd σ a) : RelE K (upd H a w) σd σ := by
  have mo : Mono H (upd H a w) := fun b x q f => by
    rw [upd_ne (fun z => by subst z; rw [hu] at q; cases q; exact f.nmut mu)]
    exact q
  refine ⟨e.len, fun j s q => ?_, e.sep⟩
  obtain ⟨v, h1, h2⟩ := e.at_ j s q
  refine ⟨v, h1, h2.keep mo fun b x ev eb os => ?_⟩
  rw [upd_ne (fun z => ?_)]
  · exact eb
  · subst z
    subst ev
    exact n ⟨j, s, q, os, h1⟩
theorem mono_upd {a : Addr} {u w : HO} (hu : H a = some u) (mu : Mut (some u)) : Mono H (upd H a w) := fun b x q f => by
  rw [upd_ne (fun z => by subst z; rw [hu] at q; cases q; exact f.nmut mu)]
  exact q
theorem forget_len : ∀ (is : List Nat) (σ : Env), (forget is σ).length = σ.length
  | [], _ => rfl
  | i :: r, σ => by unfold forget; rw [List.length_set, forget_len]
theorem get_forget : ∀ {is : List Nat} {σ : Env} {j : Nat} {r : R}, get (forget is σ) j = some r → j ∉ is ∧ get σ j = some r
  | [], σ, j, r, h => ⟨by simp, h⟩
  | i :: is, σ, j, r, h => by
    unfold forget at h
    rw [get_set] at h
    split at h
    · cases h
    · rename_i z
      obtain ⟨h1, h2⟩ := get_forget h
      refine ⟨fun m => ?_, h2⟩
      rcases List.mem_cons.mp m with e | m
      · subst e
        exact z ⟨rfl, get_lt h⟩
      · exact h1 m
theorem get_forget_out : ∀ {is : List Nat} {σ : Env} {j : Nat}, j ∉ is → get (forget is σ) j = get σ j
  | [], σ, j, h => rfl
  | i :: is, σ, j, h => by
    unfold forget
    rw [get_set_ne fun e => h (by rw [e]; exact List.mem_cons_self), get_forget_out fun m => h (List.mem_cons_of_mem _ m)]
theorem wipe_out' {σ : L2.St} {j : Nat} : ∀ {is : List Nat}, j ∉ is → (wipe σ is)[j]? = σ[j]?
  | [], _ => rfl
  | i :: is, h => by
    unfold wipe
    rw [List.getElem?_set_ne fun e => h (by rw [e]; exact List.mem_cons_self), wipe_out' fun m => h (List.mem_cons_of_mem _ m)]
theorem RelE.forget {σd : Env} {σ : L2.St} (e : RelE K H σd σ) (is : List Nat) : RelE K H (forget is σd) σ := by
  induction is with
  | nil => exact e
  | cons i is ih => exact ih.drop i
theorem Own.forget {σd : Env} {σ : L2.St} {a : Addr} : ∀ {is : List Nat}, Own (Pv.forget is σd) σ a → Own σd σ a
  | is, ⟨j, r, h1, h2, h3⟩ => ⟨j, r, (get_forget h1).2, h2, h3⟩
theorem RelE.wiped {σd : Env} {σ : L2.St} (e : RelE K H σd σ) (is : List Nat) : RelE K H (Pv.forget is σd) (wipe σ is) := by
  refine ⟨by rw [forget_len, wipe_length]; exact e.len, fun j r h => ?_, fun j k r s a n h1 h2 o1 o2 => ?_⟩
  · obtain ⟨h1, h2⟩ := get_forget h
    rw [wipe_out' h1]
    exact e.at_ j r h2
  · obtain ⟨m1, g1⟩ := get_forget h1
    obtain ⟨m2, g2⟩ := get_forget h2
    rw [wipe_out' m1, wipe_out' m2]
    exact e.sep j k r s a n g1 g2 o1 o2
theorem Own.wiped {σd : Env} {σ : L2.St} {a : Addr} {is : List Nat} (o : Own (Pv.forget is σd) (wipe σ is) a) : Own σd σ a := by
  obtain ⟨j, r, h1, h2, h3⟩ := o
  obtain ⟨m, g⟩ := get_forget h1
  rw [wipe_out' m] at h3
  exact ⟨j, r, g, h2, h3⟩
theorem wipe_nth {σ : L2.St} {j : Nat} : ∀ {is : List Nat}, j ∈ is → (wipe σ is)[j]? = if j < σ.length then some none else none
  | [], h => by cases h
  | i :: is, h => by
    unfold wipe
    by_cases e : i = j
    · subst e
      by_cases hl : i < (wipe σ is).length
      · rw [List.getElem?_set_self hl, if_pos (by rw [wipe_length] at hl; exact hl)]
      · rw [List.getElem?_eq_none (by simpa using hl), if_neg (by rw [wipe_length] at hl; exact hl)]
    · rw [List.getElem?_set_ne e]
      exact wipe_nth ((List.mem_cons.mp h).resolve_left fun z => e z.symm)
theorem wipe_but {σ σ' : L2.St} {is ns : List Nat} (b : But is (wipe σ ns) σ') (h : ∀ i ∈ is, i ∈ ns) : wipe σ' ns = wipe σ ns := by
  obtain ⟨hl, hb⟩ := b
  rw [wipe_length] at hl
  apply List.ext_getElem?
  intro j
  by_cases m : j ∈ ns
  · rw [wipe_nth m, wipe_nth m, hl]
  · rw [wipe_out' m, hb j fun z => m (h j z)]
theorem restore_len (σ0 : Env) : ∀ (is : List Nat) (σ : Env), (restore σ0 is σ).length = σ.length
  | [], _ => rfl
  | i :: r, σ => by unfold restore; rw [List.length_set, restore_len]
theorem get_restore {σ0 σ : Env} : ∀ {is : List Nat} {j : Nat} {r : R}, get (restore σ0 is σ) j = some r → (j ∈ is ∧ get σ0 j = some r) ∨ (j ∉ is ∧ get σ j = some r)
  | [], j, r, h => .inr ⟨by simp, h⟩
  | i :: is, j, r, h => by
    unfold restore at h
    rw [get_set] at h
    split at h
    · rename_i z
      obtain ⟨rfl, _⟩ := z
      exact .inl ⟨List.mem_cons_self, h⟩
    · rename_i z
      rcases get_restore h with ⟨m, g⟩ | ⟨m, g⟩
      · exact .inl ⟨List.mem_cons_of_mem _ m, g⟩
      · by_cases e : i = j
        · subst e
          have hl := get_lt h
          exact absurd ⟨rfl, hl⟩ z
        · exact .inr ⟨fun q => (List.mem_cons.mp q).elim (fun q => e q.symm) m, g⟩
theorem noOwn_at {σ : Env} {is : List Nat} (h : noOwn σ is = true) {j : Nat} {r : R} (m : j ∈ is) (g : get σ j = some r) : r.own = false := by
  unfold noOwn at h
  have := List.all_eq_true.mp h j m
  rw [g] at this
  cases r with
  | v d => rfl
  | l _ => cases this
  | m _ => cases this
/-- behind a block: the names around as they were -/
theorem RelE.restored {σ1 σ2 : Env} {σ : L2.St} {is : List Nat} (e1 : RelE K H σ1 σ) (e2 : RelE K H' σ2 (wipe σ is)) (mo : Mono H H') (n : noOwn σ1 is = true) : RelE K H' (restore σ1 is σ2) σ := by
  have back : ∀ j r, get (restore σ1 is σ2) j = some r → r.own = true → j ∉ is ∧ get σ2 j = some r := fun j r h o => by
    rcases get_restore h with ⟨m, g⟩ | h
    · rw [noOwn_at n m g] at o; cases o
    · exact h
  refine ⟨by rw [restore_len, e2.len, wipe_length], fun j r h => ?_, fun j k r s a ne h1 h2 o1 o2 => ?_⟩
  · rcases get_restore h with ⟨m, g⟩ | ⟨m, g⟩
    · obtain ⟨v, h1, h2⟩ := e1.at_ j r g
      have hn := noOwn_at n m g
      exact ⟨v, h1, h2.keep mo fun a u _ _ o => by rw [hn] at o; cases o⟩
    · obtain ⟨v, h1, h2⟩ := e2.at_ j r g
      rw [wipe_out' m] at h1
      exact ⟨v, h1, h2⟩
  · obtain ⟨m1, g1⟩ := back j r h1 o1
    obtain ⟨m2, g2⟩ := back k s h2 o2
    have := e2.sep j k r s a ne g1 g2 o1 o2
    rw [wipe_out' m1, wipe_out' m2] at this
    exact this
theorem Own.restored {σ1 σ2 : Env} {σ : L2.St} {is : List Nat} {a : Addr} (n : noOwn σ1 is = true) (o : Own (restore σ1 is σ2) σ a) : Own σ2 (wipe σ is) a := by
  obtain ⟨j, r, h1, h2, h3⟩ := o
  rcases get_restore h1 with ⟨m, g⟩ | ⟨m, g⟩
  · rw [noOwn_at n m g] at h2; cases h2
  · exact ⟨j, r, g, h2, by rw [wipe_out' m]; exact h3⟩
theorem RelE.unwiped {σc : Env} {σ : L2.St} {is : List Nat} (e : RelE K H σc (wipe σ is)) : RelE K H σc σ := by
  have at' : ∀ i r, get σc i = some r → ∃ v, (wipe σ is)[i]? = some (some v) ∧ σ[i]? = some (some v) := fun i r h => by
    obtain ⟨v, h1, _⟩ := e.at_ i r h
    exact ⟨v, h1, (wipe_some h1).1⟩
  refine ⟨by rw [e.len, wipe_length], fun i r h => ?_, fun i j r s a n h1 h2 o1 o2 q1 q2 => ?_⟩
  · obtain ⟨v, h1, h2⟩ := e.at_ i r h
    exact ⟨v, (wipe_some h1).1, h2⟩
  · obtain ⟨v1, w1, z1⟩ := at' i r h1
    obtain ⟨v2, w2, z2⟩ := at' j s h2
    rw [q1] at z1; cases z1
    rw [q2] at z2; cases z2
    exact e.sep i j r s a n h1 h2 o1 o2 w1 w2
theorem Own.unwiped {σc : Env} {σ : L2.St} {is : List Nat} {a : Addr} (e : RelE K H σc (wipe σ is)) (o : Own σc σ a) : Own σc (wipe σ is) a := by
  obtain ⟨i, r, h1, h2, h3⟩ := o
  obtain ⟨v, w1, _⟩ := e.at_ i r h1
  rw [(wipe_some w1).1] at h3
  cases h3
  exact ⟨i, r, h1, h2, w1⟩
/-- .. and one address more -/
def OL (σd : Env) (σ : L2.St) (L : Addr) (p : Addr) : Prop := Own σd σ p ∨ p = L
theorem Ext.plus {O O' : Addr → Prop} {L : Addr} (x : Ext O O' H H') : Ext (fun p => O p ∨ p = L) (fun p => O' p ∨ p = L) H H' :=
  ⟨fun a u h n => x.1 a u h fun z => n (.inl z), fun a h => h.elim (fun z => (x.2 a z).imp .inl id) fun z => .inl (.inr z)⟩
theorem Ext.at {O : Addr → Prop} {L : Addr} {w : HO} : Ext (fun p => O p ∨ p = L) (fun p => O p ∨ p = L) H (upd H L w) :=
  ⟨fun a u h n => by rw [upd_ne fun z => n (.inr z)]; exact h, fun a h => .inl h⟩
theorem Ext.grow {O : Addr → Prop} (k : ∀ a u, H a = some u → H' a = some u) : Ext O O H H' := ⟨fun a u h _ => k a u h, fun a h => .inl h⟩
/-- what is not owned stays as it is, and is not owned later -/
theorem Ext.stay {O O' : Addr → Prop} (x : Ext O O' H H') {L : Addr} {u : HO} (h : H L = some u) (n : ¬ O L) : H' L = some u ∧ ¬ O' L :=
  ⟨x.1 L u h n, fun z => by rcases x.2 L z with q | q; · exact n q
                            · rw [h] at q; cases q⟩
end

section
variable {X : Cx} {C : Ctx}
structure SnC (X : Cx) (C : Ctx) (ifs : List Expr) (cs : Es) : Prop where
  t : PTs X ifs (tB' X.K (evC C cs))
theorem snC_nil : SnC X C [] .nil := by
  refine ⟨⟨fun pins s σ H Q I q => pts_nil.run pins s σ H Q I ?_⟩⟩
  exact tB_pure (b := true) (by
    obtain ⟨σd, rel, q⟩ := q
    refine ⟨σd, rel, ?_⟩
    simp only [evC] at q
    exact q)
theorem evC_one {e : E} (σ : Env) : evC C (.cons e .nil) σ = evT C e σ := by
  simp only [evC, evT]
  cases ev C e σ with
  | no => rfl
  | ok r σ1 =>
    simp only [Out.bind]
    cases r with
    | l _ => rfl
    | m _ => rfl
    | v d => cases d <;> try rfl
             rename_i x
             cases x <;> rfl
theorem snC_one {a : Expr} {e : E} (h : SnT X C a e) : SnC X C [a] (.cons e .nil) := by
  refine ⟨⟨fun pins s σ H Q I q => (pts_one h.t).run pins s σ H Q I ?_⟩⟩
  rw [show evC C (.cons e .nil) = _ from funext evC_one] at q
  exact q
/-- a turn of a comprehension -/
def turn1 (C : Ctx) (own : List Nat) (t : T) (cs : Es) (g : Gs) (d : D) (σ : Env) (acc : List D) : Out (List D) := match assign t (.v d) σ with
  | some σ => (evC C cs σ).bind fun b σ => if b then (evG C g σ acc).bind fun acc σ => .ok acc (forget own σ) else .ok acc (forget own σ)
  | none => .no
theorem ev_comp {own : List Nat} {t : T} {k : It} {es cs : Es} {g : Gs} (σ : Env) : ev C (.comp own t k es cs g) σ = (evDs C es σ).bind fun qs σ1 => if noOwn σ1 own then (ofO (walk k qs) (forget own σ1)).bind fun ds σ =>
    (compL (turn1 C own t cs g) ds σ []).bind fun out σ2 => .ok (.l out) (restore σ1 own σ2) else .no := by
  simp only [ev] <;> rfl
/-- what a clause's body is to do: behind it Nx holds -/
def BodyOk (K : PySem.W.Frag) (C : Ctx) (L : Addr) (own : List Nat) (σ : L2.St) (g : Gs) (B : (Hp → Prop) → L2.St → Hp → Prop) : Prop :=
  ∀ (σb : Env) (acc acc' : List D) (σc : Env) (σV : L2.St) (H3 : Hp) (accV : List V) (Nx : Hp → Prop), wipe σV own = wipe σ own → RelE K H3 σb σV → H3 L = some (.lst accV) → Reps K H3 acc accV → ¬ Own σb σV L → evG C g σb acc = .ok acc' σc →
    (∀ H4 accV', RelE K H4 σc σV → H4 L = some (.lst accV') → Reps K H4 acc' accV' → Ext (OL σb σV L) (OL σc σV L) H3 H4 → ¬ Own σc σV L → Nx H4) → B Nx σV H3
/-- a comprehension's loop -/
theorem loop_core {K : PySem.W.Frag} {own : List Nat} {t : T} {cs : Es} {g : Gs} {σ : L2.St} {H1 H0 : Hp} {L : Addr} {J : L2.It} {ds : List D} {σ0 σ2 : Env} {acc0 out : List D} {accV0 : List V} {B : (Hp → Prop) → L2.St → Hp → Prop} {F : Hp → Prop}
    (ht : ∀ i ∈ t.slots, i ∈ own) (wk : Wk K t.isT J ds H1) (mo : Mono H1 H0) (rel0 : RelE K H0 σ0 (wipe σ own)) (hL0 : H0 L = some (.lst accV0)) (hacc0 : Reps K H0 acc0 accV0) (n0 : ¬ Own σ0 (wipe σ own) L)
    (hB : BodyOk K C L own σ g B) (e3 : compL (turn1 C own t cs g) ds σ0 acc0 = .ok out σ2)
    (fin : ∀ HA accV, RelE K HA σ2 (wipe σ own) → HA L = some (.lst accV) → Reps K HA out accV → Ext (OL σ0 (wipe σ own) L) (OL σ2 (wipe σ own) L) H0 HA → ¬ Own σ2 (wipe σ own) L → F HA) :
    ∃ W : Nat → Nat → Hp → Prop, (∃ m, W 0 m H0) ∧ ∀ i m H, W i m H → (J.stop i H ∧ F H) ∨ (J.go i H ∧ ∃ Nx : Hp → Prop, (∀ H', Nx H' → ∃ m', m' < m ∧ W (i + 1) m' H') ∧ ∀ x H', J.yld i H x H' → tG K t x (wipe σ own) H' fun σ2 H2 => wipe σ2 own = wipe σ own ∧ tB' K (evC C cs) σ2 H2 fun b H3 =>
      if b = true then B Nx σ2 H3 else Nx H3) := by
  refine ⟨fun i m HA => ∃ σi acc accV, i ≤ ds.length ∧ m = ds.length - i ∧ RelE K HA σi (wipe σ own) ∧ HA L = some (.lst accV) ∧ Reps K HA acc accV ∧ Ext (OL σ0 (wipe σ own) L) (OL σi (wipe σ own) L) H0 HA ∧ ¬ Own σi (wipe σ own) L ∧
    compL (turn1 C own t cs g) (ds.drop i) σi acc = .ok out σ2, ⟨ds.length, σ0, acc0, accV0, Nat.zero_le _, rfl, rel0, hL0, hacc0, Ext.refl _ _, n0, by rw [List.drop_zero]; exact e3⟩, ?_⟩
  rintro i m HA ⟨σi, acc, accV, hi, hm, relA, hL, hacc, xA, nA, hc⟩
  have mo0 : Mono H0 HA := Ext.mono xA fun p o => by
    rcases o with o | o
    · exact rel0.own o
    · subst o; exact ⟨_, hL0, trivial⟩
  have moA : Mono H1 HA := mo.trans mo0
  by_cases hlt : i < ds.length
  · have hd : ds[i]? = some ds[i] := List.getElem?_eq_getElem hlt
    rw [List.drop_eq_getElem_cons hlt] at hc
    simp only [compL] at hc
    cases e4 : turn1 C own t cs g ds[i] σi acc with
    | no => rw [e4] at hc; cases hc
    | ok acc' σ' =>
      rw [e4] at hc
      simp only [Out.bind] at hc
      refine .inr ⟨wk.go i HA moA hlt, fun HB => ∃ accV', RelE K HB σ' (wipe σ own) ∧ HB L = some (.lst accV') ∧ Reps K HB acc' accV' ∧ Ext (OL σ0 (wipe σ own) L) (OL σ' (wipe σ own) L) H0 HB ∧ ¬ Own σ' (wipe σ own) L, ?_, ?_⟩
      · rintro HB ⟨accV', r1, r2, r3, r4, r5⟩
        exact ⟨ds.length - (i + 1), by omega, σ', acc', accV', hlt, rfl, r1, r2, r3, r4, r5, hc⟩
      · intro x H' y
        obtain ⟨rd, grow⟩ := wk.yld i x HA H' moA y _ hd
        unfold turn1 at e4
        cases e5 : assign t (.v ds[i]) σi with
        | none => rw [e5] at e4; cases e4
        | some σa =>
          rw [e5] at e4
          simp only at e4
          have relH' := relA.keep grow
          have hL' := grow _ _ hL
          refine ⟨σi, ds[i], σa, relH', rd, e5, fun σv relV oV bV => ⟨wipe_but bV ht, ?_⟩⟩
          have hw : wipe σv own = wipe σ own := wipe_but bV ht
          have nV : ¬ Own σa σv L := fun o => nA (oV _ o)
          refine ⟨σa, relV, ?_⟩
          cases e6 : evC C cs σa with
          | no => rw [e6] at e4; cases e4
          | ok b σb =>
            rw [e6] at e4
            simp only [Out.bind] at e4
            intro H3 rel3 x3
            obtain ⟨hL3, n3⟩ := x3.stay hL' nV
            have m3 : Mono HA H3 := fun a u h f => (Ext.mono x3 fun p o => relV.own o) a u (grow a u h) f
            have hacc3 := Reps.mono m3 _ _ hacc
            have xA3 : Ext (OL σ0 (wipe σ own) L) (OL σb σv L) H0 H3 := by
              have y1 : Ext (OL σi (wipe σ own) L) (OL σa σv L) HA H' := ⟨fun a u h _ => grow a u h, fun a h => h.elim (fun z => .inl (.inl (oV a z))) fun z => .inl (.inr z)⟩
              exact (xA.trans y1).trans x3.plus
            cases b
            · simp only [Bool.false_eq_true, if_false] at e4
              cases e4
              rw [if_neg (by decide)]
              refine ⟨accV, ?_, hL3, hacc3, ?_, ?_⟩
              · have := rel3.wiped own
                rw [hw] at this
                exact this
              · refine xA3.sub (fun _ h => h) fun a h => ?_
                rcases h with h | h
                · rw [← hw] at h; exact .inl h.wiped
                · exact .inr h
              · intro o
                rw [← hw] at o
                exact n3 o.wiped
            · simp only [if_true] at e4
              rw [if_pos rfl]
              cases e7 : evG C g σb acc with
              | no => rw [e7] at e4; cases e4
              | ok acc2 σc =>
                rw [e7] at e4
                simp only at e4
                cases e4
                refine hB σb acc _ _ σv H3 accV _ hw rel3 hL3 hacc3 n3 e7 fun H4 accV' rel4 hL4 hacc4 x4 n4 => ?_
                refine ⟨accV', ?_, hL4, hacc4, ?_, ?_⟩
                · have := rel4.wiped own
                  rw [hw] at this
                  exact this
                · refine (xA3.trans x4).sub (fun _ h => h) fun a h => ?_
                  rcases h with h | h
                  · rw [← hw] at h; exact .inl h.wiped
                  · exact .inr h
                · intro o
                  rw [← hw] at o
                  exact n4 o.wiped
  · have hi' : i = ds.length := by omega
    subst hi'
    rw [List.drop_length] at hc
    simp only [compL] at hc
    cases hc
    exact .inl ⟨wk.stop HA moA, fin HA accV relA hL hacc xA nA⟩
/-- the element -/
theorem body_elt {K : PySem.W.Frag} {L : Addr} {own : List Nat} {σ : L2.St} {e : E} : BodyOk K C L own σ (.elt e) fun Nx σV H3 => tD K (evD1 C e) σV H3 fun y H4 => ∃ acc, H4 L = some (.lst acc) ∧ acc.length < sizeLine ∧ Nx (upd H4 L (.lst (acc ++ [y]))) := by
  intro σb acc acc' σc σV H3 accV Nx hw rel3 hL3 hacc3 n3 e4 k
  refine ⟨σb, rel3, ?_⟩
  simp only [evG] at e4
  unfold evD1
  cases e7 : ev C e σb with
  | no => rw [e7] at e4; cases e4
  | ok r σc' =>
    rw [e7] at e4
    simp only [Out.bind] at e4 ⊢
    by_cases hs : small acc.length = true
    · rw [if_pos hs] at e4
      cases e4
      intro y4 H4 rel4 x4 rv4
      obtain ⟨hL4, n4⟩ := x4.stay hL3 n3
      have m4 : Mono H3 H4 := Ext.mono x4 fun p o => rel3.own o
      have hacc4 := Reps.mono m4 _ _ hacc3
      refine ⟨accV, hL4, by rw [← hacc3.len]; exact small_lt hs, k _ (accV ++ [y4]) (rel4.updOut hL4 trivial n4) upd_same ?_ ?_ n4⟩
      · exact Reps.append (Reps.mono (mono_upd hL4 trivial) _ _ hacc4) (Reps.one (Rep.mono (mono_upd hL4 trivial) _ _ rv4))
      · exact x4.plus.trans Ext.at
    · rw [if_neg hs] at e4
      cases e4
/-- a second clause -/
theorem body_cons {K : PySem.W.Frag} {L : Addr} {own : List Nat} {σ : L2.St} {t : T} {k : It} {es cs : Es} {e : E} (ht : ∀ i ∈ t.slots, i ∈ own) : BodyOk K C L own σ (.cons t k es cs (.elt e)) fun Nx σV H3 => tIt K t.isT (srcOf C k es) σV H3 fun J1 H4 => ∃ W1 : Nat → Nat → Hp → Prop, (∃ m, W1 0 m H4) ∧ ∀ j k H, W1 j k H →
      (J1.stop j H ∧ Nx H) ∨ (J1.go j H ∧ ∃ Nx1 : Hp → Prop, (∀ H', Nx1 H' → ∃ k', k' < k ∧ W1 (j + 1) k' H') ∧ ∀ x H', J1.yld j H x H' → tG K t x (wipe σV t.slots) H' fun σ3 H5 => wipe σ3 t.slots = wipe σV t.slots ∧ tB' K (evC C cs) σ3 H5 fun b H6 =>
        if b = true then tD K (evD1 C e) σ3 H6 fun y H7 => ∃ acc, H7 L = some (.lst acc) ∧ acc.length < sizeLine ∧ Nx1 (upd H7 L (.lst (acc ++ [y]))) else Nx1 H6) := by
  intro σb acc acc' σc σV H3 accV Nx hw rel3 hL3 hacc3 n3 e4 fin
  refine ⟨σb, rel3, ?_⟩
  simp only [evG] at e4
  unfold srcOf
  cases e1 : evDs C es σb with
  | no => rw [e1] at e4; cases e4
  | ok qs σ1 =>
    rw [e1] at e4
    simp only [Out.bind] at e4 ⊢
    cases e2 : walk k qs with
    | none => rw [e2] at e4; cases e4
    | some ds =>
      rw [e2] at e4
      simp only [ofO] at e4 ⊢
      intro J H4 rel4 x4 wk
      obtain ⟨hL4, n4⟩ := x4.stay hL3 n3
      have m4 : Mono H3 H4 := Ext.mono x4 fun p o => rel3.own o
      have e5 : compL (turn1 C t.slots t cs (.elt e)) ds (forget t.slots σ1) acc = .ok acc' σc := e4
      refine loop_core (H1 := H4) (fun i h => h) wk (Mono.refl _) (rel4.wiped t.slots) hL4 (Reps.mono m4 _ _ hacc3) (fun o => n4 o.wiped) body_elt e5 fun HA accV' relA hLA haccA xA nA => ?_
      -- behind the inner loop: the slots of σV itself
      refine fin HA accV' relA.unwiped hLA haccA ?_ fun o => nA (o.unwiped relA)
      exact x4.plus.trans (xA.sub (fun a h => h.imp (fun o => o.wiped) id) fun a h => h.imp (fun o => o.unwiped relA) id)

/-- the list that the comprehension has made -/
theorem comp_fin {K : PySem.W.Frag} {own : List Nat} {σ : L2.St} {H H1 HA : Hp} {L : Addr} {σd σ1 σ2 : Env} {out : List D} {accV : List V} {Q : VK} (rel : RelE K H σd σ) (rel1 : RelE K H1 σ1 σ) (x1 : Ext (Own σd σ) (Own σ1 σ) H H1) (hD : H1 L = none) (hn : noOwn σ1 own = true)
    (relA : RelE K HA σ2 (wipe σ own)) (hLA : HA L = some (.lst accV)) (haccA : Reps K HA out accV) (xA : Ext (OL (forget own σ1) (wipe σ own) L) (OL σ2 (wipe σ own) L) (upd H1 L (.lst [])) HA) (nA : ¬ Own σ2 (wipe σ own) L)
    (q : PostR K σ σd H (.ok (.l out) (restore σ1 own σ2)) Q) : Q (.ref L) HA := by
  have grow : ∀ a u, H1 a = some u → upd H1 L (.lst []) a = some u := fun a u h => by rw [upd_ne fun z => by subst z; rw [hD] at h; cases h]; exact h
  have xB : Ext (Own σ1 σ) (fun a => OL σ2 (wipe σ own) L a) H1 HA := by
    refine ⟨fun a u h n => xA.1 a u (grow a u h) fun z => ?_, fun a z => ?_⟩
    · rcases z with z | z
      · exact n z.wiped
      · subst z; rw [hD] at h; cases h
    · rcases xA.2 a z with z | z
      · rcases z with z | z
        · exact .inl z.wiped
        · exact .inr (by rw [z]; exact hD)
      · by_cases e : a = L
        · exact .inr (by rw [e]; exact hD)
        · rw [upd_ne e] at z; exact .inr z
  have mo : Mono H1 HA := Ext.mono xB fun p o => rel1.own o
  refine q _ _ (rel1.restored relA mo hn) ?_ ⟨L, accV, rfl, hLA, haccA⟩ fun a _ e o => nA (by cases e; exact o.restored hn)
  refine (x1.trans xB).sub (fun _ h => h) fun a h => ?_
  rcases h with h | h
  · exact .inl (h.restored hn)
  · obtain ⟨_, h⟩ := h; cases h; exact .inr rfl
theorem comp_w1 {K : PySem.W.Frag} {own : List Nat} {t : T} {k : It} {es cs : Es} {e : E} (ht : ∀ i ∈ t.slots, i ∈ own) {σ : L2.St} {H : Hp} {Q : VK} (q : tR K (ev C (.comp own t k es cs (.elt e))) σ H Q) : tLc (tIt K t.isT (srcOf C k es)) (tG K t) (tB' K (evC C cs)) (tD K (evD1 C e)) own σ H Q := by
  obtain ⟨σd, rel, q⟩ := q
  rw [ev_comp] at q
  refine ⟨σd, rel, ?_⟩
  unfold srcOf
  cases e1 : evDs C es σd with
  | no => rw [e1] at q; exact q.elim
  | ok qs σ1 =>
    rw [e1] at q
    simp only [Out.bind] at q ⊢
    by_cases hn : noOwn σ1 own = true
    · rw [if_pos hn] at q
      cases e2 : walk k qs with
      | none => rw [e2] at q; exact q.elim
      | some ds =>
        rw [e2] at q
        simp only [ofO] at q ⊢
        cases e3 : compL (turn1 C own t cs (.elt e)) ds (forget own σ1) [] with
        | no => rw [e3] at q; exact q.elim
        | ok out σ2 =>
          rw [e3] at q
          intro J H1 rel1 x1 wk L hD
          have grow : ∀ a u, H1 a = some u → upd H1 L (.lst []) a = some u := fun a u h => by rw [upd_ne fun z => by subst z; rw [hD] at h; cases h]; exact h
          refine loop_core (accV0 := []) ht wk (fun a u h _ => grow a u h) ((rel1.keep grow).wiped own) upd_same (by exact rfl) (fun o => ?_) body_elt e3 fun HA accV relA hLA haccA xA nA => ?_
          · obtain ⟨w, hw, _⟩ := rel1.own o.wiped
            rw [hD] at hw; cases hw
          · exact comp_fin rel rel1 x1 hD hn relA hLA haccA xA nA q
    · rw [if_neg hn] at q; exact q.elim
theorem comp_w2 {K : PySem.W.Frag} {own : List Nat} {t t1 : T} {k k1 : It} {es cs es1 cs1 : Es} {e : E} (ht : ∀ i ∈ t.slots, i ∈ own) (ht1 : ∀ i ∈ t1.slots, i ∈ own) {σ : L2.St} {H : Hp} {Q : VK} (q : tR K (ev C (.comp own t k es cs (.cons t1 k1 es1 cs1 (.elt e)))) σ H Q) :
    tLc2 (tIt K t.isT (srcOf C k es)) (tG K t) (tB' K (evC C cs)) (tIt K t1.isT (srcOf C k1 es1)) (tG K t1) (tB' K (evC C cs1)) (tD K (evD1 C e)) own t1.slots σ H Q := by
  obtain ⟨σd, rel, q⟩ := q
  rw [ev_comp] at q
  refine ⟨σd, rel, ?_⟩
  unfold srcOf
  cases e1 : evDs C es σd with
  | no => rw [e1] at q; exact q.elim
  | ok qs σ1 =>
    rw [e1] at q
    simp only [Out.bind] at q ⊢
    by_cases hn : noOwn σ1 own = true
    · rw [if_pos hn] at q
      cases e2 : walk k qs with
      | none => rw [e2] at q; exact q.elim
      | some ds =>
        rw [e2] at q
        simp only [ofO] at q ⊢
        cases e3 : compL (turn1 C own t cs (.cons t1 k1 es1 cs1 (.elt e))) ds (forget own σ1) [] with
        | no => rw [e3] at q; exact q.elim
        | ok out σ2 =>
          rw [e3] at q
          intro J H1 rel1 x1 wk L hD
          have grow : ∀ a u, H1 a = some u → upd H1 L (.lst []) a = some u := fun a u h => by rw [upd_ne fun z => by subst z; rw [hD] at h; cases h]; exact h
          refine loop_core (accV0 := []) ht wk (fun a u h _ => grow a u h) ((rel1.keep grow).wiped own) upd_same (by exact rfl) (fun o => ?_) (body_cons ht1) e3 fun HA accV relA hLA haccA xA nA => ?_
          · obtain ⟨w, hw, _⟩ := rel1.own o.wiped
            rw [hD] at hw; cases hw
          · exact comp_fin rel rel1 x1 hD hn relA hLA haccA xA nA q
    · rw [if_neg hn] at q; exact q.elim
end
section
variable {X : Cx} {C : Ctx}
theorem sn_comp1 {elt tg iter : Expr} {ifs : List Expr} {scope : Scope} {own : List (Str × Nat)} {pos : Pos} {t : T} {k : It} {es cs : Es} {e : E} (hc : X.calm = true) (hN : X.N.Nodup) (hi : SnIt X C tg iter t.isT k es) (ok : BlkOk X.N X.env.scope scope own) (hv : ∀ i ∈ t.slots, i ∈ own.map (·.2))
    (hb : ∀ (s : Shared) (H : Hp) (D : Addr) (cl : List (Str × Addr)) (fp : List Addr), SnG (X.blk s H scope (compEnvC scope cl D X.env) fp) tg t ∧ SnC (X.blk s H scope (compEnvC scope cl D X.env) fp) C ifs cs ∧ Sn (X.blk s H scope (compEnvC scope cl D X.env) fp) C elt e)
    (hs : ∀ x, foldedSetIterable iter X.env x = pure x := by intro _; rfl) : Sn X C (.ListComp elt [⟨tg, iter, ifs, 0⟩] scope pos) (.comp (own.map (·.2)) t k es cs (.elt e)) := by
  refine .of (pe_weak (pe_lc hc hN hi.i ok (fun s H D cl fp => (hb s H D cl fp).1.g) (fun s H D cl fp => (hb s H D cl fp).2.1.t) (fun s H D cl fp => (hb s H D cl fp).2.2.d) hs) fun σ H Q q => comp_w1 hv q) (by simp)
theorem sn_comp2 {elt tg iter tg1 iter1 : Expr} {ifs ifs1 : List Expr} {scope : Scope} {own : List (Str × Nat)} {pos : Pos} {t t1 : T} {k k1 : It} {es cs es1 cs1 : Es} {e : E} (hc : X.calm = true) (hN : X.N.Nodup) (hi : SnIt X C tg iter t.isT k es) (ok : BlkOk X.N X.env.scope scope own) (hv : ∀ i ∈ t.slots, i ∈ own.map (·.2)) (hv1 : ∀ i ∈ t1.slots, i ∈ own.map (·.2))
    (hb : ∀ (s : Shared) (H : Hp) (D : Addr) (cl : List (Str × Addr)) (fp : List Addr), SnG (X.blk s H scope (compEnvC scope cl D X.env) fp) tg t ∧ SnC (X.blk s H scope (compEnvC scope cl D X.env) fp) C ifs cs ∧ SnIt (X.blk s H scope (compEnvC scope cl D X.env) fp) C tg1 iter1 t1.isT k1 es1 ∧ SnG (X.blk s H scope (compEnvC scope cl D X.env) fp) tg1 t1 ∧
      SnC (X.blk s H scope (compEnvC scope cl D X.env) fp) C ifs1 cs1 ∧ Sn (X.blk s H scope (compEnvC scope cl D X.env) fp) C elt e)
    (hs : ∀ x, foldedSetIterable iter X.env x = pure x := by intro _; rfl) (hs1 : ∀ env x, foldedSetIterable iter1 env x = pure x := by intro _ _; rfl) :
    Sn X C (.ListComp elt [⟨tg, iter, ifs, 0⟩, ⟨tg1, iter1, ifs1, 0⟩] scope pos) (.comp (own.map (·.2)) t k es cs (.cons t1 k1 es1 cs1 (.elt e))) := by
  refine .of (pe_weak (pe_lc2 hc hN hi.i ok hv1 (fun s H D cl fp => (hb s H D cl fp).1.g) (fun s H D cl fp => (hb s H D cl fp).2.1.t) (fun s H D cl fp => (hb s H D cl fp).2.2.1.i) (fun s H D cl fp => (hb s H D cl fp).2.2.2.1.g) (fun s H D cl fp => (hb s H D cl fp).2.2.2.2.1.t) (fun s H D cl fp => (hb s H D cl fp).2.2.2.2.2.d) hs hs1) fun σ H Q q => comp_w2 hv hv1 q) (by simp)
end
end Pv
end
section
/-! PvJ: statements. -/
namespace Pv
open PySem PySem.Spec PyProof.Rows L2 RZ

/-- the slots of the inout parameters stay -/
def Keep (pn : List Nat) (σ σ' : L2.St) : Prop := ∀ i ∈ pn, σ'[i]? = σ[i]?
theorem Keep.refl (pn : List Nat) (σ : L2.St) : Keep pn σ σ := fun _ _ => rfl
theorem Keep.trans {pn : List Nat} {σ σ1 σ2 : L2.St} (h : Keep pn σ σ1) (g : Keep pn σ1 σ2) : Keep pn σ σ2 := fun i m => (g i m).trans (h i m)
/-- how a run lands -/
def PostS (K : PySem.W.Frag) (pn : List Nat) (σ : L2.St) (σd : Env) (H : Hp) (fl : Fl) (D : Ends) : Prop := match fl with
  | .next σ1 => ∀ σ' H', RelE K H' σ1 σ' → Ext (Own σd σ) (Own σ1 σ') H H' → Keep pn σ σ' → D.nx σ' H'
  | .brk σ1 => ∀ σ' H', RelE K H' σ1 σ' → Ext (Own σd σ) (Own σ1 σ') H H' → Keep pn σ σ' → D.bk σ' H'
  | .cnt σ1 => ∀ σ' H', RelE K H' σ1 σ' → Ext (Own σd σ) (Own σ1 σ') H H' → Keep pn σ σ' → D.ct σ' H'
  | .ret r σ1 => ∀ v σ' H', RelE K H' σ1 σ' → Ext (Own σd σ) (fun a => Own σ1 σ' a ∨ (r.own = true ∧ v = .ref a)) H H' → Keep pn σ σ' → RepR K H' r v → (∀ a, r.own = true → v = .ref a → ¬ Own σ1 σ' a) → D.rt v H'
  | .no => False
def tSs (K : PySem.W.Frag) (pn : List Nat) (f : Env → Fl) : TS := fun D σ H => ∃ σd, RelE K H σd σ ∧ PostS K pn σ σd H (f σd) D
theorem PostS.after {K : PySem.W.Frag} {pn : List Nat} {σ σ' : L2.St} {σd σ1 : Env} {H H' : Hp} {fl : Fl} {D : Ends} (h : PostS K pn σ σd H fl D) (x : Ext (Own σd σ) (Own σ1 σ') H H') (k : Keep pn σ σ') : PostS K pn σ' σ1 H' fl D := by
  cases fl with
  | next σ2 => exact fun σ'' H'' r y k' => h σ'' H'' r (x.trans y) (k.trans k')
  | brk σ2 => exact fun σ'' H'' r y k' => h σ'' H'' r (x.trans y) (k.trans k')
  | cnt σ2 => exact fun σ'' H'' r y k' => h σ'' H'' r (x.trans y) (k.trans k')
  | ret r σ2 => exact fun v σ'' H'' e y k' => h v σ'' H'' e (x.trans y) (k.trans k')
  | no => exact h
structure SnS (X : Cx) (C : Ctx) (pn : List Nat) (st : Stmt) (s : S) : Prop where
  p : PS X st (tSs X.K pn (evS C s))
structure SnB (X : Cx) (C : Ctx) (pn : List Nat) (sts : List Stmt) (ss : Ss) : Prop where
  p : PSs X sts (tSs X.K pn (evSs C ss))

section
variable {X : Cx} {C : Ctx} {pn : List Nat} {st : Stmt} {sts : List Stmt} {pos : Pos}
theorem snB_nil : SnB X C pn [] .nil := by
  refine ⟨pss_weak pss_nil fun D σ H q => ?_⟩
  obtain ⟨σd, rel, q⟩ := q
  simp only [evSs] at q
  exact q σ H rel (Ext.refl _ _) (Keep.refl _ _)
theorem snB_cons {s : S} {ss : Ss} (h : SnS X C pn st s) (hs : SnB X C pn sts ss) : SnB X C pn (st :: sts) (.cons s ss) := by
  refine ⟨pss_weak (pss_cons h.p hs.p) fun D σ H q => ?_⟩
  obtain ⟨σd, rel, q⟩ := q
  refine ⟨σd, rel, ?_⟩
  simp only [evSs] at q
  cases e : evS C s σd with
  | next σ1 =>
    rw [e] at q
    exact fun σ' H' r x k => ⟨σ1, r, PostS.after q x k⟩
  | brk σ1 => rw [e] at q; exact q
  | cnt σ1 => rw [e] at q; exact q
  | ret r σ1 => rw [e] at q; exact q
  | no => rw [e] at q; exact q
/-- a docstring ahead -/
theorem snB_doc {x j p p'} {ss : Ss} (hs : SnB X C pn sts ss) : SnB X C pn (.Expr (.Constant (.str x) j p) p' :: sts) ss := ⟨pss_weak (pss_cons ps_doc hs.p) fun _ _ _ q => q⟩
theorem snS_pass : SnS X C pn (.Pass pos) .pass := by
  refine ⟨ps_weak ps_pass fun D σ H q => ?_⟩
  obtain ⟨σd, rel, q⟩ := q
  simp only [evS] at q
  exact q σ H rel (Ext.refl _ _) (Keep.refl _ _)
theorem snS_brk : SnS X C pn (.Break pos) .brk := by
  refine ⟨ps_weak ps_break fun D σ H q => ?_⟩
  obtain ⟨σd, rel, q⟩ := q
  simp only [evS] at q
  exact q σ H rel (Ext.refl _ _) (Keep.refl _ _)
theorem snS_cnt : SnS X C pn (.Continue pos) .cnt := by
  refine ⟨ps_weak ps_continue fun D σ H q => ?_⟩
  obtain ⟨σd, rel, q⟩ := q
  simp only [evS] at q
  exact q σ H rel (Ext.refl _ _) (Keep.refl _ _)
theorem Own.orL {σd σ1 : Env} {σ : L2.St} {H H' : Hp} {O : Addr → Prop} (x : Ext (Own σd σ) (fun a => Own σ1 σ a ∨ O a) H H') : Ext (Own σd σ) (Own σ1 σ) H H' := x.sub (fun _ h => h) fun _ h => .inl h
theorem snS_expr {a : Expr} {e : E} (h : Sn X C a e) (hs : swapsWith a none pos.line X.env = pure false := by rfl) : SnS X C pn (.Expr a pos) (.expr e) := by
  refine ⟨ps_weak (ps_expr h.r hs) fun D σ H q => ?_⟩
  obtain ⟨σd, rel, q⟩ := q
  refine ⟨σd, rel, ?_⟩
  simp only [evS] at q
  cases e1 : ev C e σd with
  | no => rw [e1] at q; exact q
  | ok r σ1 =>
    rw [e1] at q
    exact fun v H' rel' x _ _ => q σ H' rel' (Own.orL x) (Keep.refl _ _)
theorem snS_retN : SnS X C pn (.Return none pos) .retN := by
  refine ⟨ps_weak ps_retN fun D σ H q => ?_⟩
  obtain ⟨σd, rel, q⟩ := q
  simp only [evS] at q
  exact q _ σ H rel ((Ext.refl _ _).sub (fun _ h => h) fun _ h => h.resolve_right fun z => nomatch z.1) (Keep.refl _ _) rfl fun _ z => nomatch z
theorem snS_ret {a : Expr} {e : E} (h : Sn X C a e) (nv : ∀ i, e ≠ .v i) : SnS X C pn (.Return (some a) pos) (.ret e) := by
  refine ⟨ps_weak (ps_ret h.r) fun D σ H q => ?_⟩
  obtain ⟨σd, rel, q⟩ := q
  refine ⟨σd, rel, ?_⟩
  have e0 : evS C (.ret e) σd = (ev C e σd).fl fun r σ => .ret r σ := by
    cases e with
    | v i => exact absurd rfl (nv i)
    | _ => simp only [evS]
  rw [e0] at q
  cases e1 : ev C e σd with
  | no => rw [e1] at q; exact q
  | ok r σ1 =>
    rw [e1] at q
    exact fun v H' rel' x rv n => q v σ H' rel' x (Keep.refl _ _) rv n
/-- return of a name: the row moves -/
theorem snS_retV {a : Expr} {i : Nat} (h : PE X a (tVar i)) : SnS X C pn (.Return (some a) pos) (.ret (.v i)) := by
  refine ⟨ps_weak (ps_ret h) fun D σ H q => ?_⟩
  obtain ⟨σd, rel, q⟩ := q
  simp only [evS] at q
  cases g : get σd i with
  | none => rw [g] at q; exact q.elim
  | some r =>
    rw [g] at q
    obtain ⟨v, hv, rv⟩ := rel.at_ i r g
    refine ⟨v, hv, q v σ H (rel.drop i) ⟨fun _ _ h _ => h, fun a h => .inl (h.elim (fun o => o.drop) fun o => ⟨i, r, g, o.1, by rw [hv, o.2]⟩)⟩ (Keep.refl _ _) rv fun a o ea ow => ?_⟩
    subst ea
    obtain ⟨j, s, g1, o1, h3⟩ := ow
    rw [get_set] at g1
    split at g1
    · cases g1
    · rename_i z
      exact rel.sep i j r s a (fun w => z ⟨w, get_lt g⟩) g g1 o o1 hv h3
theorem snS_ife {c : Expr} {ca cb : List Stmt} {e : E} {a b : Ss} (h : SnT X C c e) (ha : SnB X C pn ca a) (hb : SnB X C pn cb b) : SnS X C pn (.If c ca cb pos) (.ife e a b) := by
  refine ⟨ps_weak (ps_if h.t ha.p hb.p) fun D σ H q => ?_⟩
  obtain ⟨σd, rel, q⟩ := q
  refine ⟨σd, rel, ?_⟩
  simp only [evS] at q
  cases e1 : evT C e σd with
  | no => rw [e1] at q; exact q
  | ok x σ1 =>
    rw [e1] at q
    intro H1 rel1 x1
    simp only [Out.fl] at q
    cases x
    · rw [if_neg (by decide)] at q ⊢
      exact ⟨σ1, rel1, PostS.after q x1 (Keep.refl _ _)⟩
    · rw [if_pos rfl] at q ⊢
      exact ⟨σ1, rel1, PostS.after q x1 (Keep.refl _ _)⟩

/-! ### stores -/
/-- a name written with what came -/
theorem rel_setR {K : PySem.W.Frag} {σd σ1 : Env} {σ : L2.St} {H H' : Hp} {i : Nat} {r : R} {v : V} (rel : RelE K H' σ1 σ) (hl : i < σ1.length) (x : Ext (Own σd σ) (fun a => Own σ1 σ a ∨ (r.own = true ∧ v = .ref a)) H H') (rv : RepR K H' r v) (n : ∀ a, r.own = true → v = .ref a → ¬ Own σ1 σ a) :
    RelE K H' (σ1.set i (some r)) (σ.set i (some v)) ∧ Ext (Own σd σ) (Own (σ1.set i (some r)) (σ.set i (some v))) H H' := by
  refine ⟨?_, x.sub (fun _ h => h) fun a h => Own.setR hl h⟩
  have hl' : i < σ.length := by rw [← rel.len]; exact hl
  cases hr : r.own with
  | false =>
    cases r with
    | v d => exact rel.setV hl' rv
    | l _ => cases hr
    | m _ => cases hr
  | true =>
    obtain ⟨a, rfl⟩ : ∃ a, v = .ref a := by
      cases r with
      | v d => cases hr
      | l _ => obtain ⟨a, _, e, _⟩ := rv; exact ⟨a, e⟩
      | m _ => obtain ⟨a, _, _, e, _⟩ := rv; exact ⟨a, e⟩
    exact rel.setR hl' hr rv fun j ne s g o h => n a hr rfl ⟨j, s, g, o, h⟩
theorem keep_set {pn : List Nat} {σ : L2.St} {i : Nat} {x : Option V} (h : i ∉ pn) : Keep pn σ (σ.set i x) := fun j m => List.getElem?_set_ne fun z => h (by rw [z]; exact m)
theorem keep_but {pn is : List Nat} {σ σ' : L2.St} (b : But is σ σ') (h : ∀ i ∈ is, i ∉ pn) : Keep pn σ σ' := fun j m => b.2 j fun z => h j z m
theorem asgV_w {σ : L2.St} {H : Hp} {D : Ends} {K : PySem.W.Frag} {e : E} {i : Nat} (hp : i ∉ pn) (q : tSs K pn (evS C (.asg (.v i) e)) D σ H) : tAsg (tR K (ev C e)) (gName i) D σ H := by
  obtain ⟨σd, rel, q⟩ := q
  refine ⟨σd, rel, ?_⟩
  simp only [evS] at q
  cases e1 : ev C e σd with
  | no => rw [e1] at q; exact q
  | ok r σ1 =>
    rw [e1] at q
    intro v H' rel' x rv n
    simp only [Out.fl, assign] at q
    split at q
    · rename_i σ2 h2
      split at h2
      · rename_i hl
        cases h2
        obtain ⟨r1, x1⟩ := rel_setR rel' hl x rv n
        exact q _ H' r1 x1 (keep_set hp)
      · cases h2
    · exact q.elim
theorem snS_asgV {a : Expr} {e : E} {i : Nat} {x : Str} {pos' : Pos} (hN : X.N.Nodup) (hi : X.N[i]? = some x) (hx : Loc X.env.scope x) (h : Sn X C a e) (hp : i ∉ pn) (hf : X.fn x = true ∨ X.env.scope.names.lookup x = some .local) (hs : swapsWith a (some (.Name x pos')) pos.line X.env = pure false := by rfl) : SnS X C pn (.Assign [.Name x pos'] a pos) (.asg (.v i) e) :=
  ⟨ps_weak (ps_set hN hi hx h.r hs hf) fun _ _ _ q => asgV_w hp q⟩
/-- a, b = a tuple -/
theorem snS_asgT {a tg : Expr} {e : E} {ts : List T} (h : Sn X C a e) (hg : SnG X tg (.t ts)) (hp : ∀ i ∈ (T.t ts).slots, i ∉ pn) (hs : swapsWithSole [tg] a pos.line X.env = pure false := by rfl) (hw : swappedStores [tg] a X.env = pure none := by rfl)
    (h1 : (assignEach [tg] X.env).map (·.2) = [PySem.assign tg X.env] := by rfl) : SnS X C pn (.Assign [tg] a pos) (.asg (.t ts) e) := by
  refine ⟨ps_weak (ps_asg h.r hg.g hs hw h1) fun D σ H q => ?_⟩
  obtain ⟨σd, rel, q⟩ := q
  refine ⟨σd, rel, ?_⟩
  simp only [evS] at q
  cases e1 : ev C e σd with
  | no => rw [e1] at q; exact q
  | ok r σ1 =>
    rw [e1] at q
    intro v H' rel' x rv n
    simp only [Out.fl] at q
    cases r with
    | l _ => simp only [assign] at q; exact q.elim
    | m _ => simp only [assign] at q; exact q.elim
    | v d =>
      cases ha : assign (.t ts) (.v d) σ1 with
      | none => rw [ha] at q; exact q.elim
      | some σ2 =>
        rw [ha] at q
        refine ⟨σ1, d, σ2, rel', .inl rv, ha, fun σ' r2 o2 b2 => ?_⟩
        exact q σ' H' r2 (x.sub (fun _ h => h) fun p o => .inl (o2 p o)) (keep_but b2 hp)
end
end Pv
end
section
/-! PvK: loops. -/
namespace Pv
open PySem PySem.Spec PyProof.Rows L2 RZ

/-! ### while, by turns -/
theorem whN_more : ∀ {n m : Nat} {c : Env → Out Bool} {b : Env → Fl} {σ : Env}, n ≤ m → whN n c b σ ≠ .no → whN m c b σ = whN n c b σ
  | 0, _, _, _, _, _, h => absurd rfl h
  | n + 1, 0, _, _, _, l, _ => by omega
  | n + 1, m + 1, c, b, σ, l, h => by
    unfold whN at h ⊢
    cases e : c σ with
    | no => rw [e] at h; exact absurd rfl h
    | ok x σ1 =>
      rw [e] at h
      simp only [Out.fl] at h ⊢
      cases x with
      | false => rfl
      | true =>
        simp only [if_true] at h ⊢
        cases e2 : b σ1 with
        | next σ2 => rw [e2] at h; exact whN_more (by omega) h
        | cnt σ2 => rw [e2] at h; exact whN_more (by omega) h
        | brk σ2 => rfl
        | ret r σ2 => rfl
        | no => rfl
open Classical in
/-- a while, however many turns -/
noncomputable def whileW (c : Env → Out Bool) (b : Env → Fl) (σ : Env) : Fl := if h : ∃ n, whN n c b σ ≠ .no then whN h.choose c b σ else .no
theorem whileW_of {n : Nat} {c : Env → Out Bool} {b : Env → Fl} {σ : Env} (h : whN n c b σ ≠ .no) : whileW c b σ = whN n c b σ := by
  unfold whileW
  have e : ∃ n, whN n c b σ ≠ .no := ⟨n, h⟩
  rw [dif_pos e]
  rcases Nat.le_total n e.choose with l | l
  · exact whN_more l h
  · exact (whN_more l e.choose_spec).symm
theorem whileW_at {c : Env → Out Bool} {b : Env → Fl} {σ : Env} (h : whileW c b σ ≠ .no) : ∃ n, whN n c b σ = whileW c b σ := by
  unfold whileW at h ⊢
  by_cases e : ∃ n, whN n c b σ ≠ .no
  · rw [dif_pos e]; exact ⟨_, rfl⟩
  · rw [dif_neg e] at h; exact absurd rfl h
/-- one turn more -/
theorem whileW_eq (c : Env → Out Bool) (b : Env → Fl) (σ : Env) : whileW c b σ = (c σ).fl fun x σ => if x then (match b σ with
    | .next σ => whileW c b σ
    | .cnt σ => whileW c b σ
    | .brk σ => .next σ
    | x => x) else .next σ := by
  have key : ∀ fl : Fl, ((c σ).fl fun x σ => if x then (match b σ with
    | .next σ => whileW c b σ
    | .cnt σ => whileW c b σ
    | .brk σ => .next σ
    | x => x) else .next σ) = fl → fl ≠ .no → whileW c b σ = fl := by
    intro fl e n
    cases e1 : c σ with
    | no => rw [e1] at e; exact absurd e.symm n
    | ok x σ1 =>
      rw [e1] at e
      simp only [Out.fl] at e
      cases x with
      | false =>
        simp only [Bool.false_eq_true, if_false] at e
        have : whN 1 c b σ = fl := by unfold whN; rw [e1]; simp only [Out.fl, Bool.false_eq_true, if_false]; exact e
        rw [whileW_of (n := 1) (by rw [this]; exact n), this]
      | true =>
        simp only [if_true] at e
        cases e2 : b σ1 with
        | next σ2 =>
          rw [e2] at e
          simp only at e
          obtain ⟨k, hk⟩ := whileW_at (c := c) (b := b) (σ := σ2) (by rw [e]; exact n)
          have : whN (k + 1) c b σ = fl := by unfold whN; rw [e1]; simp only [Out.fl, if_true]; rw [e2]; simp only; rw [hk]; exact e
          rw [whileW_of (n := k + 1) (by rw [this]; exact n), this]
        | cnt σ2 =>
          rw [e2] at e
          simp only at e
          obtain ⟨k, hk⟩ := whileW_at (c := c) (b := b) (σ := σ2) (by rw [e]; exact n)
          have : whN (k + 1) c b σ = fl := by unfold whN; rw [e1]; simp only [Out.fl, if_true]; rw [e2]; simp only; rw [hk]; exact e
          rw [whileW_of (n := k + 1) (by rw [this]; exact n), this]
        | brk σ2 =>
          rw [e2] at e
          have : whN 1 c b σ = fl := by unfold whN; rw [e1]; simp only [Out.fl, if_true]; rw [e2]; exact e
          rw [whileW_of (n := 1) (by rw [this]; exact n), this]
        | ret r σ2 =>
          rw [e2] at e
          have : whN 1 c b σ = fl := by unfold whN; rw [e1]; simp only [Out.fl, if_true]; rw [e2]; exact e
          rw [whileW_of (n := 1) (by rw [this]; exact n), this]
        | no => rw [e2] at e; exact absurd e.symm n
  by_cases h : ((c σ).fl fun x σ => if x then (match b σ with
    | .next σ => whileW c b σ
    | .cnt σ => whileW c b σ
    | .brk σ => .next σ
    | x => x) else .next σ) = .no
  · rw [h]
    by_cases h2 : whileW c b σ = .no
    · exact h2
    · exfalso
      obtain ⟨k, hk⟩ := whileW_at h2
      cases k with
      | zero => exact h2 hk.symm
      | succ k =>
        unfold whN at hk
        cases e1 : c σ with
        | no => rw [e1] at hk; exact h2 hk.symm
        | ok x σ1 =>
          rw [e1] at hk h
          simp only [Out.fl] at hk h
          cases x with
          | false => simp only [Bool.false_eq_true, if_false] at h; cases h
          | true =>
            simp only [if_true] at hk h
            cases e2 : b σ1 with
            | next σ2 =>
              rw [e2] at hk h
              simp only at hk h
              have := whileW_of (n := k) (c := c) (b := b) (σ := σ2) (by rw [hk]; exact h2)
              rw [this, hk] at h
              exact h2 h
            | cnt σ2 =>
              rw [e2] at hk h
              simp only at hk h
              have := whileW_of (n := k) (c := c) (b := b) (σ := σ2) (by rw [hk]; exact h2)
              rw [this, hk] at h
              exact h2 h
            | brk σ2 => rw [e2] at h; cases h
            | ret r σ2 => rw [e2] at h; cases h
            | no => rw [e2] at hk; exact h2 hk.symm
  · exact key _ rfl h

section
variable {X : Cx} {C : Ctx} {pn : List Nat} {pos : Pos}
/-- a turn's body, the loop's names forgotten behind it -/
def bodyK (C : Ctx) (b : Ss) (kill : List Nat) (σ : Env) : Fl := match evSs C b σ with
  | .next σ => .next (forget kill σ)
  | .cnt σ => .cnt (forget kill σ)
  | .brk σ => .brk (forget kill σ)
  | x => x
theorem evS_whl {c : E} {b : Ss} {kill : List Nat} {σ : Env} : evS C (.whl c b kill) σ = C.wh (evT C c) (bodyK C b kill) (forget kill σ) := by
  simp only [evS]
  rfl
/-- the body's reading, its landing told by bodyK -/
theorem body_w {K : PySem.W.Frag} {b : Ss} {kill : List Nat} {D : Ends} {σ : L2.St} {H : Hp} {σd : Env} (rel : RelE K H σd σ) (q : PostS K pn σ σd H (bodyK C b kill σd) D) : tSs K pn (evSs C b) D σ H := by
  refine ⟨σd, rel, ?_⟩
  unfold bodyK at q
  cases e : evSs C b σd with
  | next σ1 => rw [e] at q; exact fun σ' H' r x k => q σ' H' (r.forget kill) (x.sub (fun _ h => h) fun _ h => h.forget) k
  | brk σ1 => rw [e] at q; exact fun σ' H' r x k => q σ' H' (r.forget kill) (x.sub (fun _ h => h) fun _ h => h.forget) k
  | cnt σ1 => rw [e] at q; exact fun σ' H' r x k => q σ' H' (r.forget kill) (x.sub (fun _ h => h) fun _ h => h.forget) k
  | ret r σ1 => rw [e] at q; exact q
  | no => rw [e] at q; exact q
theorem snS_whl {c : Expr} {body : List Stmt} {e : E} {b : Ss} {kill : List Nat} (hp : PassesOwn (model X.prog X.w) X.A X.env X.xe) (hw : C.wh = whileW) (hc : SnT X C c e) (hb : SnB X C pn body b) : SnS X C pn (.While c body [] pos) (.whl e b kill) := by
  refine ⟨ps_weak (ps_while hp hc.t hb.p) fun D σ H q => ?_⟩
  obtain ⟨σd, rel, q⟩ := q
  rw [evS_whl, hw] at q
  refine ⟨fun m σ' H' => ∃ σi, RelE X.K H' σi σ' ∧ Ext (Own σd σ) (Own σi σ') H H' ∧ Keep pn σ σ' ∧ whN m (evT C e) (bodyK C b kill) σi = whileW (evT C e) (bodyK C b kill) (forget kill σd), ?_, ?_⟩
  · obtain ⟨n, hn⟩ := whileW_at (c := evT C e) (b := bodyK C b kill) (σ := forget kill σd) (fun z => by rw [z] at q; exact q)
    exact ⟨n, forget kill σd, rel.forget kill, (Ext.refl _ _).sub (fun _ h => h) fun _ h => h.forget, Keep.refl _ _, hn⟩
  · rintro m σ' H' ⟨σi, rel', x', k', e1⟩
    rw [← e1] at q
    cases m with
    | zero => exact q.elim
    | succ m =>
      have e1' := e1
      unfold whN at e1 q
      refine ⟨σi, rel', ?_⟩
      cases e2 : evT C e σi with
      | no => rw [e2] at q; exact q
      | ok y σ1 =>
        rw [e2] at q e1
        simp only [Out.fl] at q e1
        intro H1 rel1 x1
        have x01 := x'.trans x1
        cases y with
        | false =>
          simp only [Bool.false_eq_true, if_false] at q e1 ⊢
          exact q σ' H1 rel1 x01 k'
        | true =>
          simp only [if_true] at q e1 ⊢
          refine ⟨fun σ2 H2 => ∃ σj, RelE X.K H2 σj σ2 ∧ Ext (Own σd σ) (Own σj σ2) H H2 ∧ Keep pn σ σ2 ∧ whN m (evT C e) (bodyK C b kill) σj = whileW (evT C e) (bodyK C b kill) (forget kill σd), fun σ2 H2 h => ⟨m, Nat.lt_succ_self m, h⟩, ?_⟩
          refine body_w (kill := kill) rel1 ?_
          cases e3 : bodyK C b kill σ1 with
          | next σ2 =>
            rw [e3] at e1
            exact fun σ3 H3 r3 x3 k3 => ⟨σ2, r3, x01.trans x3, k'.trans k3, e1⟩
          | cnt σ2 =>
            rw [e3] at e1
            exact fun σ3 H3 r3 x3 k3 => ⟨σ2, r3, x01.trans x3, k'.trans k3, e1⟩
          | brk σ2 =>
            rw [e3] at q
            exact fun σ3 H3 r3 x3 k3 => q σ3 H3 r3 (x01.trans x3) (k'.trans k3)
          | ret r σ2 =>
            rw [e3] at q
            exact fun v σ3 H3 r3 x3 k3 => q v σ3 H3 r3 (x01.trans x3) (k'.trans k3)
          | no => rw [e3] at q; exact q
theorem evS_for {t : T} {k : It} {es : Es} {b : Ss} {kill : List Nat} {σ : Env} : evS C (.for t k es b kill) σ = (srcOf C k es σ).fl fun ds σ => forL (fun d σ => match assign t (.v d) σ with
    | some σ => bodyK C b kill σ
    | none => .no) ds (forget kill σ) := by
  simp only [evS]
  rfl
theorem snS_for {tg iter : Expr} {body : List Stmt} {t : T} {k : It} {es : Es} {b : Ss} {kill : List Nat} (hp : PassesOwn (model X.prog X.w) X.A X.env X.xe) (hc : X.calm = true) (hi : SnIt X C tg iter t.isT k es) (hg : SnG X tg t) (ht : ∀ i ∈ t.slots, i ∉ pn) (hb : SnB X C pn body b)
    (hs : ∀ x, foldedSetIterable iter X.env x = pure x := by intro _; rfl) : SnS X C pn (.For tg iter body [] pos) (.for t k es b kill) := by
  refine ⟨ps_weak (ps_for hp hc hi.i hg.g hb.p hs) fun D σ H q => ?_⟩
  obtain ⟨σd, rel, q⟩ := q
  rw [evS_for] at q
  refine ⟨σd, rel, ?_⟩
  cases e1 : srcOf C k es σd with
  | no => rw [e1] at q; exact q
  | ok ds σ1 =>
    rw [e1] at q
    intro J H1 rel1 x1 wk
    simp only [Out.fl] at q
    generalize hfl : forL _ ds (forget kill σ1) = fl at q
    refine ⟨fun i m σ' H' => ∃ σi, i ≤ ds.length ∧ m = ds.length - i ∧ RelE X.K H' σi σ' ∧ Mono H1 H' ∧ Ext (Own σd σ) (Own σi σ') H H' ∧ Keep pn σ σ' ∧ forL (fun d σ => match assign t (.v d) σ with | some σ => bodyK C b kill σ | none => .no) (ds.drop i) σi = fl,
      ⟨ds.length, forget kill σ1, Nat.zero_le _, rfl, rel1.forget kill, Mono.refl _, x1.sub (fun _ h => h) fun _ h => h.forget, Keep.refl _ _, hfl⟩, ?_⟩
    rintro i m σ' H' ⟨σi, hi, hm, rel', mo', x', k', e2⟩
    by_cases hlt : i < ds.length
    · have hd : ds[i]? = some ds[i] := List.getElem?_eq_getElem hlt
      rw [List.drop_eq_getElem_cons hlt] at e2
      simp only [forL] at e2
      refine .inr ⟨wk.go i H' mo' hlt, fun σ2 H2 => ∃ σj, RelE X.K H2 σj σ2 ∧ Mono H1 H2 ∧ Ext (Own σd σ) (Own σj σ2) H H2 ∧ Keep pn σ σ2 ∧ forL (fun d σ => match assign t (.v d) σ with | some σ => bodyK C b kill σ | none => .no) (ds.drop (i + 1)) σj = fl, ?_, ?_⟩
      · rintro σ2 H2 ⟨σj, h1, h2, h3, h4, h5⟩
        exact ⟨ds.length - (i + 1), by omega, σj, hlt, rfl, h1, h2, h3, h4, h5⟩
      · intro x H2 y
        obtain ⟨rd, grow⟩ := wk.yld i x H' H2 mo' y _ hd
        cases e5 : assign t (.v ds[i]) σi with
        | none =>
          rw [e5] at e2
          simp only at e2
          rw [← e2] at q
          exact q.elim
        | some σa =>
          rw [e5] at e2
          simp only at e2
          have rel2 := rel'.keep grow
          refine ⟨σi, ds[i], σa, rel2, rd, e5, fun σv relV oV bV => ?_⟩
          have xV : Ext (Own σd σ) (Own σa σv) H H2 := x'.trans ⟨fun a u h _ => grow a u h, fun a h => .inl (oV a h)⟩
          have kV := k'.trans (keep_but bV ht)
          have mV : Mono H1 H2 := fun a u h f => grow a u (mo' a u h f)
          refine body_w (kill := kill) relV ?_
          cases e6 : bodyK C b kill σa with
          | next σ2 =>
            rw [e6] at e2
            exact fun σ3 H3 r3 x3 k3 => ⟨σ2, r3, mV.trans (relV.mono x3), xV.trans x3, kV.trans k3, e2⟩
          | cnt σ2 =>
            rw [e6] at e2
            exact fun σ3 H3 r3 x3 k3 => ⟨σ2, r3, mV.trans (relV.mono x3), xV.trans x3, kV.trans k3, e2⟩
          | brk σ2 =>
            rw [e6] at e2
            simp only at e2
            rw [← e2] at q
            exact fun σ3 H3 r3 x3 k3 => q σ3 H3 r3 (xV.trans x3) (kV.trans k3)
          | ret r σ2 =>
            rw [e6] at e2
            simp only at e2
            rw [← e2] at q
            exact fun v σ3 H3 r3 x3 k3 => q v σ3 H3 r3 (xV.trans x3) (kV.trans k3)
          | no =>
            rw [e6] at e2
            simp only at e2
            rw [← e2] at q
            exact q
    · have hi' : i = ds.length := by omega
      subst hi'
      rw [List.drop_length] at e2
      simp only [forL] at e2
      rw [← e2] at q
      exact .inl ⟨wk.stop H' mo', q σ' H' rel' x' k'⟩
end
end Pv
end
section
/-! PvL: stores, rows that grow. -/
namespace Pv
open PySem PySem.Spec PyProof.Rows L2 RZ

section
variable {K : PySem.W.Frag} {H H' : Hp}
theorem Ext.write {σd : Env} {σ : L2.St} {i : Nat} {r r' : R} {a : Addr} {u : HO} (g : get σd i = some r) (o : r.own = true) (hs : σ[i]? = some (some (.ref a))) : Ext (Own σd σ) (Own (σd.set i (some r')) σ) H (upd H a u) :=
  ⟨fun b w h n => by rw [upd_ne fun z => n (by subst z; exact ⟨i, r, g, o, hs⟩)]; exact h, fun b h => .inl (Own.write g o h)⟩
/-- what a slot owns, where it lies -/
theorem RelE.lst_at {σd : Env} {σ : L2.St} {i : Nat} {xs : List D} (e : RelE K H σd σ) (g : get σd i = some (.l xs)) : ∃ a vs, σ[i]? = some (some (.ref a)) ∧ H a = some (.lst vs) ∧ Reps K H xs vs := by
  obtain ⟨v, h1, a, vs, rfl, h2, h3⟩ := e.at_ i _ g
  exact ⟨a, vs, h1, h2, h3⟩
theorem RelE.dic_at {σd : Env} {σ : L2.St} {i : Nat} {l : List (D × D)} (e : RelE K H σd σ) (g : get σd i = some (.m l)) : ∃ a ks, σ[i]? = some (some (.ref a)) ∧ H a = some (.dK ks) ∧ RepP K H l (ks.map fun p => (keyD p.1, p.2)) := by
  obtain ⟨v, h1, a, u, kvs, rfl, h2, h3, h4⟩ := e.at_ i _ g
  obtain ⟨ks, rfl, rfl⟩ := dk_of h3
  exact ⟨a, ks, h1, h2, h4⟩
/-- a row written anew -/
theorem lst_write {σd : Env} {σ : L2.St} {i : Nat} {xs ys : List D} {a : Addr} {vs ws : List V} (e : RelE K H σd σ) (g : get σd i = some (.l xs)) (hs : σ[i]? = some (some (.ref a))) (ha : H a = some (.lst vs)) (hr : Reps K H ys ws) :
    RelE K (upd H a (.lst ws)) (σd.set i (some (.l ys))) σ ∧ Ext (Own σd σ) (Own (σd.set i (some (.l ys))) σ) H (upd H a (.lst ws)) := by
  have m : Mono H (upd H a (.lst ws)) := mono_upd ha trivial
  exact ⟨e.write g rfl hs rfl ⟨a, ws, rfl, upd_same, Reps.mono m _ _ hr⟩, Ext.write g rfl hs⟩
theorem dic_write {σd : Env} {σ : L2.St} {i : Nat} {l l' : List (D × D)} {a : Addr} {ks ks' : List (Key × V)} (e : RelE K H σd σ) (g : get σd i = some (.m l)) (hs : σ[i]? = some (some (.ref a))) (ha : H a = some (.dK ks)) (hr : RepP K H l' (ks'.map fun p => (keyD p.1, p.2))) :
    RelE K (upd H a (.dK ks')) (σd.set i (some (.m l'))) σ ∧ Ext (Own σd σ) (Own (σd.set i (some (.m l'))) σ) H (upd H a (.dK ks')) := by
  have m : Mono H (upd H a (.dK ks')) := mono_upd ha trivial
  exact ⟨e.write g rfl hs rfl ⟨a, _, _, rfl, upd_same, ⟨ks', rfl, rfl⟩, RepP.mono m _ _ hr⟩, Ext.write g rfl hs⟩
theorem RepP.nil {l : List (D × D)} (h : RepP K H l []) : l = [] := by
  cases l with
  | nil => rfl
  | cons p r => obtain ⟨_, _, e, _⟩ := h; cases e
theorem repP_snoc {k d : D} {v : V} (hd : Rep K H d v) : ∀ {l : List (D × D)} {kvs : List (D × V)}, RepP K H l kvs → RepP K H (l ++ [(k, d)]) (kvs ++ [(k, v)])
  | [], _, h => by rw [show _ = [] from h]; exact ⟨v, [], rfl, hd, rfl⟩
  | (a, b) :: l, _, h => by
    obtain ⟨w, r, rfl, h1, h2⟩ := h
    exact ⟨w, r ++ [(k, v)], rfl, h1, repP_snoc hd h2⟩
theorem repP_set {q : Key} {d : D} {v : V} (hd : Rep K H d v) : ∀ {l : List (D × D)} {ks : List (Key × V)}, RepP K H l (ks.map fun p => (keyD p.1, p.2)) →
    RepP K H (mset l (keyD q) d) ((ks.map fun kv => if kv.1 = q then (kv.1, v) else kv).map fun p => (keyD p.1, p.2))
  | l, [], h => by rw [RepP.nil h]; exact rfl
  | [], _ :: _, h => by cases h
  | (a, b) :: l, p :: ks, h => by
    obtain ⟨w, r, e, h1, h2⟩ := h
    rw [List.map_cons] at e
    cases e
    have ih := repP_set (q := q) hd h2
    unfold mset at ih ⊢
    simp only [List.map_cons]
    by_cases z : p.1 = q
    · rw [if_pos (by rw [z, beq_refl]), if_pos z]
      exact ⟨v, _, rfl, hd, ih⟩
    · have nz : D.beq (keyD p.1) (keyD q) = false := beq_ne fun w => z (keyD_inj w)
      rw [if_neg (by rw [nz]; decide), if_neg z]
      exact ⟨p.2, _, rfl, h1, ih⟩
theorem repP_put {q : Key} {d : D} {v : V} (hd : Rep K H d v) {l : List (D × D)} {ks : List (Key × V)} (h : RepP K H l (ks.map fun p => (keyD p.1, p.2))) : RepP K H (mput l (keyD q) d) ((putK ks q v).map fun p => (keyD p.1, p.2)) := by
  have e : mhas l (keyD q) = (ks.any fun kv => decide (kv.1 = q)) := by
    obtain ⟨m1, m2⟩ := mlook_val q h
    rw [valV_any]
    unfold mhas
    cases z : mlook l (keyD q) with
    | none => rw [m2 z]; rfl
    | some x => obtain ⟨w, hw, _⟩ := m1 x z; rw [hw]; rfl
  unfold mput putK
  rw [e]
  split
  · exact repP_set hd h
  · rw [List.map_append]
    exact repP_snoc hd h
theorem repP_drop {q : Key} : ∀ {l : List (D × D)} {ks : List (Key × V)}, RepP K H l (ks.map fun p => (keyD p.1, p.2)) → RepP K H (mdel l (keyD q)) ((dropK ks q).map fun p => (keyD p.1, p.2))
  | l, [], h => by rw [RepP.nil h]; exact rfl
  | [], _ :: _, h => by cases h
  | (a, b) :: l, p :: ks, h => by
    obtain ⟨w, r, e, h1, h2⟩ := h
    rw [List.map_cons] at e
    cases e
    have ih := repP_drop (q := q) h2
    unfold mdel dropK at ih ⊢
    simp only [List.filter_cons]
    by_cases z : p.1 = q
    · rw [if_neg (by rw [z, beq_refl]; decide), if_neg (by simp [z])]
      exact ih
    · have nz : D.beq (keyD p.1) (keyD q) = false := beq_ne fun w => z (keyD_inj w)
      rw [if_pos (by rw [nz]; rfl), if_pos (by simp [z])]
      exact ⟨p.2, _, rfl, h1, ih⟩
theorem Reps.dropLast {l : List D} {vs : List V} (h : Reps K H l vs) : Reps K H l.dropLast vs.dropLast := by
  rw [List.dropLast_eq_take, List.dropLast_eq_take, h.len]
  exact h.take _
end

section
variable {X : Cx} {C : Ctx} {pn : List Nat} {pos : Pos}
/-! ### rows that grow -/
theorem snS_app {o a : Expr} {i : Nat} {e : E} {apos cpos : Pos} (ho : PE X o (tVar i)) (h : Sn X C a e) (hs : swapsWith (.Call (.Attribute o "append" apos) [a] [] cpos) none pos.line X.env = pure false := by rfl) (hbase : attributeBase o "append" X.env (eval o X.env) = eval o X.env := by rfl)
    (hfew : ((backTo cpos (starEach [a] X.env)).all (fun x => !x.1) && (backToKw cpos (keywordEach [] X.env)).all (fun x => x.1.isSome)
      && decide ([a].length + ([] : List Keyword).length + (if ([] : List Keyword).isEmpty then 0 else 1) < 30)) = true := by rfl)
    (hline : (apos.endLine == cpos.line) = true := by rfl) (hst : starEach [a] X.env = (false, eval a X.env) :: starEach [] X.env := by rfl) : SnS X C pn (.Expr (.Call (.Attribute o "append" apos) [a] [] cpos) pos) (.app i e) := by
  refine ⟨ps_weak (ps_expr (pe_bm PySem.F.plainAttrs_list PySem.F.slot_list_append PySem.F.type_list_append mt_append ho (pa_cons h.d pa_nil hst) hbase hfew hline hst rfl) hs) fun D σ H q => ?_⟩
  obtain ⟨σd, rel, q⟩ := q
  simp only [evS] at q
  cases g : get σd i with
  | none => rw [g] at q; exact q.elim
  | some r =>
    rw [g] at q
    cases r with
    | v d => exact q.elim
    | m _ => exact q.elim
    | l xs0 =>
      obtain ⟨a0, vs0, s0, h0, _⟩ := rel.lst_at g
      simp only at q
      refine ⟨_, s0, .inl ⟨rfl, vs0, SqL.of h0⟩, σd, rel, ?_⟩
      unfold evD1
      cases e1 : ev C e σd with
      | no => rw [e1] at q; exact q.elim
      | ok r σ1 =>
        rw [e1] at q
        simp only [Out.fl, Out.bind] at q ⊢
        intro v H1 rel1 x1 rv
        cases g1 : get σ1 i with
        | none => rw [g1] at q; exact q.elim
        | some r1 =>
          rw [g1] at q
          cases r1 with
          | v d => exact q.elim
          | m _ => exact q.elim
          | l xs =>
            simp only at q
            by_cases hz : small xs.length = true
            · rw [if_pos hz] at q
              obtain ⟨a1, vs, s1, h1, r1⟩ := rel1.lst_at g1
              rw [s0] at s1
              cases s1
              obtain ⟨w1, w2⟩ := lst_write rel1 g1 s0 h1 (Reps.append r1 (Reps.one rv))
              exact ⟨a0, vs, v, rfl, rfl, h1, by rw [← r1.len]; exact small_lt hz, q σ _ w1 (x1.trans w2) (Keep.refl _ _)⟩
            · rw [if_neg hz] at q; exact q.elim
theorem snS_ext {o a : Expr} {i : Nat} {e : E} {apos cpos : Pos} (ho : PE X o (tVar i)) (h : Sn X C a e) (hs : swapsWith (.Call (.Attribute o "extend" apos) [a] [] cpos) none pos.line X.env = pure false := by rfl) (hbase : attributeBase o "extend" X.env (eval o X.env) = eval o X.env := by rfl)
    (hfew : ((backTo cpos (starEach [a] X.env)).all (fun x => !x.1) && (backToKw cpos (keywordEach [] X.env)).all (fun x => x.1.isSome)
      && decide ([a].length + ([] : List Keyword).length + (if ([] : List Keyword).isEmpty then 0 else 1) < 30)) = true := by rfl)
    (hline : (apos.endLine == cpos.line) = true := by rfl) (hst : starEach [a] X.env = (false, eval a X.env) :: starEach [] X.env := by rfl) : SnS X C pn (.Expr (.Call (.Attribute o "extend" apos) [a] [] cpos) pos) (.ext i e) := by
  refine ⟨ps_weak (ps_expr (pe_bm PySem.F.plainAttrs_list PySem.F.slot_list_extend PySem.F.type_list_extend mt_extend ho (pa_cons h.r pa_nil hst) hbase hfew hline hst rfl) hs) fun D σ H q => ?_⟩
  obtain ⟨σd, rel, q⟩ := q
  simp only [evS] at q
  cases g : get σd i with
  | none => rw [g] at q; exact q.elim
  | some r =>
    rw [g] at q
    cases r with
    | v d => exact q.elim
    | m _ => exact q.elim
    | l xs0 =>
      obtain ⟨a0, vs0, s0, h0, _⟩ := rel.lst_at g
      simp only at q
      refine ⟨_, s0, .inl ⟨rfl, vs0, SqL.of h0⟩, σd, rel, ?_⟩
      cases e1 : ev C e σd with
      | no => rw [e1] at q; exact q.elim
      | ok r σ1 =>
        rw [e1] at q
        simp only [Out.fl] at q ⊢
        intro v H1 rel1 x1 rv n1
        cases g1 : get σ1 i with
        | none => rw [g1] at q; exact q.elim
        | some r1 =>
          rw [g1] at q
          cases r1 with
          | v d => exact q.elim
          | m _ => exact q.elim
          | l xs =>
            cases r with
            | v _ => exact q.elim
            | m _ => exact q.elim
            | l ys =>
              simp only at q
              by_cases hz : small (xs.length + ys.length) = true
              · rw [if_pos hz] at q
                obtain ⟨a1, vs, s1, h1, r1⟩ := rel1.lst_at g1
                rw [s0] at s1
                cases s1
                obtain ⟨b, ws, rfl, h2, r2⟩ := rv
                obtain ⟨w1, w2⟩ := lst_write rel1 g1 s0 h1 (Reps.append r1 r2)
                have hz' := small_lt hz
                exact ⟨a0, b, vs, ws, rfl, rfl, h1, h2, by rw [← r1.len, ← r2.len]; omega, q σ _ w1 ((Own.orL x1).trans w2) (Keep.refl _ _)⟩
              · rw [if_neg hz] at q; exact q.elim
/-- xs.pop() -/
theorem sn_pop {o : Expr} {i : Nat} {apos cpos : Pos} (ho : PE X o (tVar i)) (hbase : attributeBase o "pop" X.env (eval o X.env) = eval o X.env := by rfl) (hline : (apos.endLine == cpos.line) = true := by rfl) : Sn X C (.Call (.Attribute o "pop" apos) [] [] cpos) (.pop i) := by
  refine .of (pe_weak (pe_bm0 PySem.F.plainAttrs_list PySem.F.slot_list_pop PySem.F.type_list_pop mt_pop ho hbase hline) fun σ H Q q => ?_) fun i => by simp
  obtain ⟨σd, rel, q⟩ := q
  simp only [ev] at q
  cases g : get σd i with
  | none => rw [g] at q; exact q.elim
  | some r =>
    rw [g] at q
    cases r with
    | v d => exact q.elim
    | m _ => exact q.elim
    | l xs =>
      obtain ⟨a0, vs, s0, h0, r0⟩ := rel.lst_at g
      simp only at q
      cases e1 : xs.getLast? with
      | none => rw [e1] at q; exact q.elim
      | some d =>
        rw [e1] at q
        simp only at q
        have hl : xs[xs.length - 1]? = some d := by rw [← List.getLast?_eq_getElem?]; exact e1
        obtain ⟨v, hv, rv⟩ := Reps.get r0 hl
        rw [r0.len] at hv
        obtain ⟨w1, w2⟩ := lst_write rel g s0 h0 r0.dropLast
        refine ⟨_, s0, .inl ⟨rfl, vs, SqL.of h0⟩, a0, vs, v, rfl, rfl, h0, hv, ?_⟩
        exact q _ _ w1 (w2.sub (fun _ h => h) fun _ h => h.resolve_right fun z => nomatch z.1) (Rep.mono (mono_upd h0 trivial) _ _ rv) fun _ z => nomatch z

/-! ### o[k] = e -/
def rSetX : TSet := fun o i v H Q => rSetL o i v H Q ∨ rSetD o i v H Q
theorem set_X (hu : X.A.units + 1 < cLine) : PSet X rSetX := fun pins s σ H o i v ov iv u Q I ro ri rv h => h.elim (fun h => set_list pins s σ H o i v ov iv u Q I ro ri rv h) fun h => set_dict hu pins s σ H o i v ov iv u Q I ro ri rv h
/-- the store itself -/
theorem putIx_w {K : PySem.W.Frag} {σ : L2.St} {σ0 σ1 : Env} {H0 H : Hp} {Dd : Ends} {i : Nat} {k d : D} {x y v : V} (rel : RelE K H σ1 σ) (x1 : Ext (Own σ0 σ) (Own σ1 σ) H0 H) (hs : σ[i]? = some (some x)) (rk : Rep K H k y) (rv : Rep K H d v) (q : PostS K pn σ σ0 H0 (putIx i k d σ1) Dd) : rSetX x y v H fun H3 => Dd.nx σ H3 := by
  unfold putIx at q
  cases g : get σ1 i with
  | none => rw [g] at q; exact q.elim
  | some r =>
    rw [g] at q
    cases r with
    | v _ => exact q.elim
    | m l =>
      simp only at q
      split at q
      · rename_i hc
        rw [Bool.and_eq_true] at hc
        obtain ⟨a, ks, s1, h1, r1⟩ := rel.dic_at g
        rw [hs] at s1
        cases s1
        obtain ⟨kq, rfl, rfl⟩ := keyD_kV hc.1 rk.q
        obtain ⟨w1, w2⟩ := dic_write rel g hs h1 (repP_put (q := kq) rv r1)
        have hl : ks.length = l.length := by rw [r1.len, List.length_map]
        exact .inr ⟨a, _, rfl, .k h1 (by rw [hl]; exact small_lt hc.2), q σ _ w1 (x1.trans w2) (Keep.refl _ _)⟩
      · exact q.elim
    | l xs =>
      simp only at q
      obtain ⟨a, vs, s1, h1, r1⟩ := rel.lst_at g
      rw [hs] at s1
      cases s1
      cases k <;> try exact q.elim
      rename_i j
      simp only at q
      unfold setAt at q
      cases e : ixN xs.length j with
      | none => rw [e] at q; exact q.elim
      | some n =>
        rw [e] at q
        cases rk
        obtain ⟨w1, w2⟩ := lst_write rel g hs h1 (Reps.set rv n r1)
        exact .inl ⟨a, vs, j, n, rfl, rfl, h1, by rw [← r1.len]; exact e, q σ _ w1 (x1.trans w2) (Keep.refl _ _)⟩
theorem snS_setix {o k a : Expr} {i : Nat} {ek e : E} {tpos : Pos} (hu : X.A.units + 1 < cLine) (ho : PE X o (tVar i)) (hk : Sn X C k ek) (h : Sn X C a e)
    (ha : ∀ v, PySem.assign (.Subscript o k tpos) X.env v = (do
      let ov ← holding [v] (eval o X.env)
      let iv ← holding [v, ov] (eval k X.env)
      standAt tpos
      holding [v, ov, iv] (setItem ov iv v)
      release [v, ov, iv] []) := by intro _; rfl)
    (hs : swapsWithSole [.Subscript o k tpos] a pos.line X.env = pure false := by rfl) (hw : swappedStores [.Subscript o k tpos] a X.env = pure none := by rfl)
    (h1 : (assignEach [.Subscript o k tpos] X.env).map (·.2) = [PySem.assign (.Subscript o k tpos) X.env] := by rfl) : SnS X C pn (.Assign [.Subscript o k tpos] a pos) (.setix i ek e) := by
  refine ⟨ps_weak (ps_asg h.d (pg_sub ho hk.d (set_X hu) ha) hs hw h1) fun D σ H q => ?_⟩
  obtain ⟨σd, rel, q⟩ := q
  refine ⟨σd, rel, ?_⟩
  simp only [evS] at q
  unfold evD1
  cases e1 : ev C e σd with
  | no => rw [e1] at q; exact q
  | ok r σ1 =>
    rw [e1] at q
    simp only [Out.fl, Out.bind] at q ⊢
    intro v H1 rel1 x1 rv
    cases g : get σ1 i with
    | none => rw [g] at q; exact q.elim
    | some r0 =>
      rw [g] at q
      obtain ⟨x, hx, _⟩ := rel1.at_ i r0 g
      simp only at q
      refine ⟨x, hx, σ1, rel1, ?_⟩
      show PostD X.K σ σ1 H1 ((ev C ek σ1).bind fun r σ => .ok r.frz σ) _
      cases e2 : ev C ek σ1 with
      | no => rw [e2] at q; exact q.elim
      | ok rk σ2 =>
        rw [e2] at q
        intro y H2 rel2 x2 ry
        exact putIx_w rel2 (x1.trans x2) hx ry (Rep.mono (rel1.mono x2) _ _ rv) q

/-! ### name op= e -/
/-- op, of numbers or texts -/
def ipF (K : PySem.W.Frag) (o : Op) : TIp := fun x y H Q => ∃ d e z, Rep K H d x ∧ Rep K H e y ∧ flatD (opD o [d, e]) = some z ∧ ∀ v, Rep K H z v → Q v H
structure Ip (X : Cx) (op : Operator) (o : Op) : Prop where
  p : PIp X op (ipF X.K o)
theorem ip_addF : Ip X .Add .add := by
  refine ⟨fun pins s σ H x y v u Q I rx ry h => ?_⟩
  obtain ⟨d, e, z, hd, he, hf, q⟩ := h
  simp only [opD] at hf
  unfold o_add at hf
  split at hf
  · rename_i i j hh
    cases hh; cases hd; cases he; cases hf
    exact iop_add pins s σ H _ _ v u Q I rx ry ⟨i, j, rfl, rfl, q _ rfl⟩
  · rename_i a b hh
    cases hh; cases hd; cases he
    by_cases hz : small (a.length + b.length) = true
    · rw [if_pos hz] at hf
      cases hf
      have := small_lt hz
      exact iop_add_str pins s σ H _ _ v u Q I rx ry ⟨st a, st b, rfl, rfl, by rw [st_len, st_len]; omega, q _ (by rw [st_app]; exact rfl)⟩
    · rw [if_neg hz] at hf; cases hf
  · rename_i a b hh
    split at hf <;> cases hf
  · rename_i a b hh
    split at hf <;> cases hf
  · cases hf
theorem ip_subF : Ip X .Sub .sub := by
  refine ⟨fun pins s σ H x y v u Q I rx ry h => ?_⟩
  obtain ⟨d, e, z, hd, he, hf, q⟩ := h
  simp only [opD] at hf
  unfold o_sub at hf
  split at hf
  · rename_i i j hh
    cases hh; cases hd; cases he; cases hf
    exact iop_sub pins s σ H _ _ v u Q I rx ry ⟨i, j, rfl, rfl, q _ rfl⟩
  · cases hf
theorem ip_mulF : Ip X .Mult .mul := by
  refine ⟨fun pins s σ H x y v u Q I rx ry h => ?_⟩
  obtain ⟨d, e, z, hd, he, hf, q⟩ := h
  simp only [opD] at hf
  unfold o_mul at hf
  split at hf
  · rename_i i j hh
    cases hh; cases hd; cases he
    by_cases hz : mulOk i j = true
    · rw [if_pos hz] at hf
      cases hf
      exact iop_mul pins s σ H _ _ v u Q I rx ry ⟨i, j, rfl, rfl, mulOk_of hz, q _ rfl⟩
    · rw [if_neg hz] at hf; cases hf
  · cases hf
theorem flat_of {o : Op} {d e z : D} (h : flatD (opD o [d, e]) = some z) : ∀ {K : PySem.W.Frag} {H H' : Hp} {v : V}, Rep K H z v → Rep K H' z v := by
  intro K H H' v r
  unfold flatD at h
  split at h <;> cases h
  · exact r
  · exact r
theorem snS_aug {i : Nat} {x : Str} {a : Expr} {e : E} {op : Operator} {o : Op} {pos' : Pos} (hN : X.N.Nodup) (hi : X.N[i]? = some x) (hx : Loc X.env.scope x) (h : Sn X C a e) (ho : Ip X op o) (hp : i ∉ pn) (hf : X.fn x = true ∨ X.env.scope.names.lookup x = some .local) : SnS X C pn (.AugAssign (.Name x pos') op a pos) (.aug i o e) := by
  refine ⟨ps_weak (ps_aug hN hi hx h.d ho.p hf) fun D σ H q => ?_⟩
  obtain ⟨σd, rel, q⟩ := q
  simp only [evS] at q
  cases g : get σd i with
  | none => rw [g] at q; exact q.elim
  | some r =>
    rw [g] at q
    cases r with
    | l _ => exact q.elim
    | m _ => exact q.elim
    | v d =>
      simp only at q
      obtain ⟨w, hw, rw'⟩ := rel.at_ i _ g
      refine ⟨w, hw, σd, rel, ?_⟩
      unfold evD1
      cases e1 : ev C e σd with
      | no => rw [e1] at q; exact q.elim
      | ok r σ1 =>
        rw [e1] at q
        simp only [Out.fl, Out.bind] at q ⊢
        intro y H1 rel1 x1 ry
        cases hf : flatD (opD o [d, r.frz]) with
        | none => rw [hf] at q; exact q.elim
        | some z =>
          rw [hf] at q
          have hl : i < σ1.length := by rw [rel1.len]; exact (List.getElem?_eq_some_iff.mp hw).1
          refine ⟨d, r.frz, z, Rep.mono (rel.mono x1) d w rw', ry, hf, fun v rv => ?_⟩
          exact q _ H1 (rel1.setV (by rw [← rel1.len]; exact hl) rv) (x1.sub (fun _ h => h) fun a o => Own.setV hl o) (keep_set hp)
theorem snS_augix {o k a : Expr} {i : Nat} {ek e : E} {op : Operator} {oo : Op} {tpos : Pos} (hu : X.A.units + 1 < cLine) (ho : PE X o (tVar i)) (hk : Sn X C k ek) (h : Sn X C a e) (hop : Ip X op oo)
    (ha : ∀ ov iv new, augStore k ov iv new = (do holding [new, ov, iv] (setItem ov iv new); release [new, ov, iv] []; pure .next) := by intros; rfl) : SnS X C pn (.AugAssign (.Subscript o k tpos) op a pos) (.augix i ek oo e) := by
  refine ⟨ps_weak (ps_daug (rd := ipF X.K oo) hu ho hk.d h.d hop.p ha) fun D σ H q => ?_⟩
  obtain ⟨σd, rel, q⟩ := q
  simp only [evS] at q
  cases g : get σd i with
  | none => rw [g] at q; exact q.elim
  | some r =>
    rw [g] at q
    cases r with
    | l _ => exact q.elim
    | v _ => exact q.elim
    | m l0 =>
      obtain ⟨a0, ks0, s0, h0, _⟩ := rel.dic_at g
      simp only at q
      refine ⟨_, s0, σd, rel, ?_⟩
      unfold evD1
      cases e1 : ev C ek σd with
      | no => rw [e1] at q; exact q.elim
      | ok rk σ1 =>
        rw [e1] at q
        simp only [Out.fl, Out.bind] at q ⊢
        intro y H1 rel1 x1 ry
        cases g1 : get σ1 i with
        | none => rw [g1] at q; exact q.elim
        | some r1 =>
          rw [g1] at q
          cases r1 with
          | l _ => exact q.elim
          | v _ => exact q.elim
          | m l1 =>
            obtain ⟨a1, ks1, s1, h1, p1⟩ := rel1.dic_at g1
            rw [s0] at s1
            cases s1
            simp only [Option.bind_some, dlook] at q
            by_cases hk1 : keyOk rk.frz = true
            · rw [if_pos hk1] at q
              obtain ⟨kq, ek1, rfl⟩ := keyD_kV hk1 ry.q
              obtain ⟨m1, m2⟩ := mlook_val kq p1
              cases e3 : mlook l1 rk.frz with
              | none => rw [e3] at q; exact q.elim
              | some z =>
                rw [e3] at q
                simp only at q
                obtain ⟨w, hw, rw'⟩ := m1 z (by rw [ek1]; exact e3)
                refine ⟨a0, w, rfl, .inl ⟨ks1, kq, .inl h1, rfl, hw.symm⟩, σ1, rel1, ?_⟩
                show PostD X.K σ σ1 H1 ((ev C e σ1).bind fun r σ => .ok r.frz σ) _
                cases e4 : ev C e σ1 with
                | no => rw [e4] at q; exact q.elim
                | ok r2 σ2 =>
                  rw [e4] at q
                  simp only at q
                  intro y2 H2 rel2 x2 ry2
                  cases hf : flatD (opD oo [z, r2.frz]) with
                  | none => rw [hf] at q; exact q.elim
                  | some z2 =>
                    rw [hf] at q
                    cases g2 : get σ2 i with
                    | none => rw [g2] at q; exact q.elim
                    | some r3 =>
                      rw [g2] at q
                      cases r3 with
                      | l _ => exact q.elim
                      | v _ => exact q.elim
                      | m l2 =>
                        simp only at q
                        obtain ⟨a2, ks2, s2, h2, p2⟩ := rel2.dic_at g2
                        rw [s0] at s2
                        cases s2
                        split at q
                        · rename_i hc
                          rw [Bool.and_eq_true] at hc
                          refine ⟨z, r2.frz, z2, Rep.mono (rel1.mono x2) z w rw', ry2, hf, fun v rv => ?_⟩
                          obtain ⟨w1, w2⟩ := dic_write rel2 g2 s0 h2 (repP_put (q := kq) rv p2)
                          rw [ek1] at w1 w2
                          have hl : ks2.length = l2.length := by rw [p2.len, List.length_map]
                          exact ⟨_, .k h2 (by rw [hl]; exact small_lt hc.2), q σ _ w1 ((x1.trans x2).trans w2) (Keep.refl _ _)⟩
                        · exact q.elim
            · rw [if_neg hk1] at q; exact q.elim
/-- d.pop(k), its value dropped -/
theorem snS_popk {o a : Expr} {i : Nat} {e : E} {apos cpos : Pos} (ho : PE X o (tVar i)) (h : Sn X C a e) (m : M1 X o "pop" apos a cpos) (hs : swapsWith (.Call (.Attribute o "pop" apos) [a] [] cpos) none pos.line X.env = pure false := by rfl) : SnS X C pn (.Expr (.Call (.Attribute o "pop" apos) [a] [] cpos) pos) (.popk i e) := by
  refine ⟨ps_weak (ps_expr (pe_dpop1 ho h.d m) hs) fun D σ H q => ?_⟩
  obtain ⟨σd, rel, q⟩ := q
  simp only [evS] at q
  cases g : get σd i with
  | none => rw [g] at q; exact q.elim
  | some r =>
    rw [g] at q
    cases r with
    | v d => exact q.elim
    | l _ => exact q.elim
    | m l0 =>
      obtain ⟨a0, ks0, s0, h0, _⟩ := rel.dic_at g
      simp only at q
      refine ⟨_, s0, a0, rfl, .inl ⟨ks0, .inl h0⟩, σd, rel, ?_⟩
      unfold evD1
      cases e1 : ev C e σd with
      | no => rw [e1] at q; exact q.elim
      | ok r σ1 =>
        rw [e1] at q
        simp only [Out.fl, Out.bind] at q ⊢
        intro y H1 rel1 x1 ry
        cases g1 : get σ1 i with
        | none => rw [g1] at q; exact q.elim
        | some r1 =>
          rw [g1] at q
          cases r1 with
          | v d => exact q.elim
          | l _ => exact q.elim
          | m l1 =>
            simp only at q
            obtain ⟨a1, ks1, s1, h1, p1⟩ := rel1.dic_at g1
            rw [s0] at s1
            cases s1
            split at q
            · rename_i hc
              rw [Bool.and_eq_true] at hc
              obtain ⟨kq, ek1, rfl⟩ := keyD_kV hc.1 ry.q
              obtain ⟨m1, m2⟩ := mlook_val kq p1
              have hm := hc.2
              unfold mhas at hm
              cases e3 : mlook l1 r.frz with
              | none => rw [e3] at hm; cases hm
              | some z =>
                obtain ⟨w, hw, rw'⟩ := m1 z (by rw [ek1]; exact e3)
                obtain ⟨w1, w2⟩ := dic_write rel1 g1 s0 h1 (repP_drop (q := kq) p1)
                rw [ek1] at w1 w2
                exact ⟨ks1, kq, w, h1, rfl, hw, q σ _ w1 (x1.trans w2) (Keep.refl _ _)⟩
            · exact q.elim
/-! ### a, b = x, y -/
theorem snS_par {i j : Nat} {x y : Str} {a b : Expr} {ea eb : E} {px py pt : Pos} {kt k2 pt2} (hc : X.calm = true) (hN : X.N.Nodup) (hi : X.N[i]? = some x) (hj : X.N[j]? = some y) (hij : i ≠ j)
    (hx : X.env.scope.names.lookup x = some .local) (hy : X.env.scope.names.lookup y = some .local) (ha : Sn X C a ea) (hb : Sn X C b eb) (hpi : i ∉ pn) (hpj : j ∉ pn)
    (hw : swappedStores [.Tuple [.Name x px, .Name y py] kt pt] (.Tuple [a, b] k2 pt2) X.env = pure (some [x, y]))
    (hs : swapsWithSole [.Tuple [.Name x px, .Name y py] kt pt] (.Tuple [a, b] k2 pt2) pos.line X.env = pure false := by rfl)
    (h1 : starEach [a, b] X.env = (false, eval a X.env) :: starEach [b] X.env := by rfl) (h2 : starEach [b] X.env = (false, eval b X.env) :: starEach [] X.env := by rfl) :
    SnS X C pn (.Assign [.Tuple [.Name x px, .Name y py] kt pt] (.Tuple [a, b] k2 pt2) pos) (.par [i, j] (.cons ea (.cons eb .nil))) := by
  refine ⟨ps_weak (ps_par hc hN hi hj hij hx hy (pa_cons ha.r (pa_cons hb.r pa_nil h2) h1) hw hs) fun D σ H q => ?_⟩
  obtain ⟨σd, rel, q⟩ := q
  refine ⟨σd, rel, ?_⟩
  simp only [evS, evRs] at q
  cases e1 : ev C ea σd with
  | no => rw [e1] at q; exact q.elim
  | ok r1 σ1 =>
    rw [e1] at q
    simp only [Out.bind] at q
    intro v1 H1 rel1 x1 rv1 n1
    refine ⟨σ1, rel1, ?_⟩
    cases e2 : ev C eb σ1 with
    | no => rw [e2] at q; exact q.elim
    | ok r2 σ2 =>
      rw [e2] at q
      simp only [Out.bind, Out.fl, sets] at q
      intro v2 H2 rel2 x2 rv2 n2
      refine ⟨v1, v2, rfl, ?_⟩
      have m2 := rel1.mono x2
      have rv1' : RepR X.K H2 r1 v1 := rv1.keep m2 fun a u ev hu o => x2.1 a u hu (n1 a o ev)
      have n1' : ∀ a, r1.own = true → v1 = .ref a → ¬ (Own σ2 σ a ∨ (r2.own = true ∧ v2 = .ref a)) := fun a o ev z => by
        obtain ⟨b, u, eb', hu, _⟩ := rv1.at o
        rw [ev] at eb'
        cases eb'
        rcases x2.2 a z with w | w
        · exact n1 a o ev w
        · rw [hu] at w; cases w
      have xx : Ext (Own σd σ) (fun a => (Own σ2 σ a ∨ (r2.own = true ∧ v2 = .ref a)) ∨ (r1.own = true ∧ v1 = .ref a)) H H2 := by
        refine ⟨fun a u h n => x2.1 a u (x1.1 a u h n) fun w => ?_, fun a w => ?_⟩
        · rcases x1.2 a (.inl w) with z | z
          · exact n z
          · rw [z] at h; cases h
        · rcases w with w | w
          · rcases x2.2 a w with z | z
            · exact x1.2 a (.inl z)
            · by_cases hh : H a = none
              · exact .inr hh
              · by_cases ho : Own σd σ a
                · exact .inl ho
                · obtain ⟨u, hu⟩ := Option.ne_none_iff_exists'.mp hh
                  rw [x1.1 a u hu ho] at z
                  cases z
          · exact x1.2 a (.inr w)
      by_cases l1 : i < σ2.length
      · rw [if_pos l1] at q
        by_cases l2 : j < (σ2.set i (some r1)).length
        · rw [if_pos l2] at q
          simp only at q
          obtain ⟨s1, y1⟩ := rel_setR (σd := σd) (H := H) (v := v1) (r := r1) rel2 l1 (xx.sub (fun _ h => h) fun a h => h.imp .inl id) rv1' fun a o ev w => n1' a o ev (.inl w)
          have xx2 : Ext (Own σd σ) (fun a => Own (σ2.set i (some r1)) (σ.set i (some v1)) a ∨ (r2.own = true ∧ v2 = .ref a)) H H2 := xx.sub (fun _ h => h) fun a h => by
            rcases h with h | h
            · rcases Own.setR l1 h with h | h
              · exact .inl (.inl h)
              · exact .inr h
            · exact .inl (.inr h)
          have n2' : ∀ a, r2.own = true → v2 = .ref a → ¬ Own (σ2.set i (some r1)) (σ.set i (some v1)) a := fun a o ev w => by
            rcases Own.setR l1 w with w | w
            · exact n2 a o ev w
            · exact n1' a w.1 w.2 (.inr ⟨o, ev⟩)
          have hl2 : j < (σ.set i (some v1)).length := by rw [← s1.len]; exact l2
          have s2 : RelE X.K H2 ((σ2.set i (some r1)).set j (some r2)) ((σ.set i (some v1)).set j (some v2)) := by
            cases hr : r2.own with
            | false =>
              cases r2 with
              | v d => exact s1.setV hl2 rv2
              | l _ => cases hr
              | m _ => cases hr
            | true =>
              obtain ⟨a, u, rfl, _, _⟩ := rv2.at hr
              exact s1.setR hl2 hr rv2 fun k ne s g o h => n2' a hr rfl ⟨k, s, g, o, h⟩
          exact q _ H2 s2 (xx2.sub (fun _ h => h) fun a h => Own.setR l2 h) ((keep_set hpi).trans (keep_set hpj))
        · rw [if_neg l2] at q; exact q.elim
      · rw [if_neg l1] at q; exact q.elim
/-! ### a, b = x, y over a tuple: the names own what they get -/
theorem snS_parT {i j : Nat} {x y : Str} {a b : Expr} {ea eb : E} {px py pt : Pos} {kt k2 pt2} (hc : X.calm = true) (hN : X.N.Nodup) (hi : X.N[i]? = some x) (hj : X.N[j]? = some y)
    (hx : PG X (.Name x px) (gName i)) (hy : PG X (.Name y py) (gName j)) (ha : Sn X C a ea) (hb : Sn X C b eb) (hpi : i ∉ pn) (hpj : j ∉ pn)
    (hs : swapsWithSole [.Tuple [.Name x px, .Name y py] kt pt] (.Tuple [a, b] k2 pt2) pos.line X.env = pure false) (hw : swappedStores [.Tuple [.Name x px, .Name y py] kt pt] (.Tuple [a, b] k2 pt2) X.env = pure none)
    (h0 : (assignEach [.Tuple [.Name x px, .Name y py] kt pt] X.env).map (·.2) = [PySem.assign (.Tuple [.Name x px, .Name y py] kt pt) X.env])
    (g1 : (assignEach [.Name x px, .Name y py] X.env).map (·.2) = PySem.assign (.Name x px) X.env :: (assignEach [.Name y py] X.env).map (·.2)) (g2 : (assignEach [.Name y py] X.env).map (·.2) = PySem.assign (.Name y py) X.env :: (assignEach [] X.env).map (·.2))
    (g3 : (assignEach [.Name x px, .Name y py] X.env).length = 2) (g4 : (assignEach [.Name x px, .Name y py] X.env).findIdx? (·.1) = none)
    (h1 : starEach [a, b] X.env = (false, eval a X.env) :: starEach [b] X.env := by rfl) (h2 : starEach [b] X.env = (false, eval b X.env) :: starEach [] X.env := by rfl) :
    SnS X C pn (.Assign [.Tuple [.Name x px, .Name y py] kt pt] (.Tuple [a, b] k2 pt2) pos) (.par [i, j] (.cons ea (.cons eb .nil))) := by
  refine ⟨ps_weak (ps_asg (pe_tupP (pa_cons ha.r (pa_cons hb.r pa_nil h2) h1)) (pg_tup hc (pgs_cons hx (pgs_cons hy pgs_nil g2) g1) g3 g4) hs hw h0) fun D σ H q => ?_⟩
  obtain ⟨σd, rel, q⟩ := q
  refine ⟨σd, rel, ?_⟩
  simp only [evS, evRs] at q
  cases e1 : ev C ea σd with
  | no => rw [e1] at q; exact q.elim
  | ok r1 σ1 =>
    rw [e1] at q
    simp only [Out.bind] at q
    intro v1 H1 rel1 x1 rv1 n1
    refine ⟨σ1, rel1, ?_⟩
    cases e2 : ev C eb σ1 with
    | no => rw [e2] at q; exact q.elim
    | ok r2 σ2 =>
      rw [e2] at q
      simp only [Out.bind, Out.fl, sets] at q
      intro v2 H2 rel2 x2 rv2 n2
      refine ⟨by simp [sizeLine_eq], fun p o np hd => ⟨p, [v1, v2], rfl, .inl (.inr ⟨o, upd_same⟩), rfl, v1, [v2], rfl, v2, [], rfl, rfl, ?_⟩⟩
      have kk : ∀ a u, H2 a = some u → upd H2 p (.frz o (.tup [v1, v2])) a = some u := fun a u h => by rw [upd_ne (ne_of_none h np)]; exact h
      have m2 := rel1.mono x2
      have rv1' : RepR X.K H2 r1 v1 := rv1.keep m2 fun a u ev hu o => x2.1 a u hu (n1 a o ev)
      have n1' : ∀ a, r1.own = true → v1 = .ref a → ¬ (Own σ2 σ a ∨ (r2.own = true ∧ v2 = .ref a)) := fun a o ev z => by
        obtain ⟨b, u, eb', hu, _⟩ := rv1.at o
        rw [ev] at eb'
        cases eb'
        rcases x2.2 a z with w | w
        · exact n1 a o ev w
        · rw [hu] at w; cases w
      have xx : Ext (Own σd σ) (fun a => (Own σ2 σ a ∨ (r2.own = true ∧ v2 = .ref a)) ∨ (r1.own = true ∧ v1 = .ref a)) H H2 := by
        refine ⟨fun a u h n => x2.1 a u (x1.1 a u h n) fun w => ?_, fun a w => ?_⟩
        · rcases x1.2 a (.inl w) with z | z
          · exact n z
          · rw [z] at h; cases h
        · rcases w with w | w
          · rcases x2.2 a w with z | z
            · exact x1.2 a (.inl z)
            · by_cases hh : H a = none
              · exact .inr hh
              · by_cases ho : Own σd σ a
                · exact .inl ho
                · obtain ⟨u, hu⟩ := Option.ne_none_iff_exists'.mp hh
                  rw [x1.1 a u hu ho] at z
                  cases z
          · exact x1.2 a (.inr w)
      by_cases l1 : i < σ2.length
      · rw [if_pos l1] at q
        by_cases l2 : j < (σ2.set i (some r1)).length
        · rw [if_pos l2] at q
          simp only at q
          obtain ⟨s1, y1⟩ := rel_setR (σd := σd) (H := H) (v := v1) (r := r1) rel2 l1 (xx.sub (fun _ h => h) fun a h => h.imp .inl id) rv1' fun a o ev w => n1' a o ev (.inl w)
          have xx2 : Ext (Own σd σ) (fun a => Own (σ2.set i (some r1)) (σ.set i (some v1)) a ∨ (r2.own = true ∧ v2 = .ref a)) H H2 := xx.sub (fun _ h => h) fun a h => by
            rcases h with h | h
            · rcases Own.setR l1 h with h | h
              · exact .inl (.inl h)
              · exact .inr h
            · exact .inl (.inr h)
          have n2' : ∀ a, r2.own = true → v2 = .ref a → ¬ Own (σ2.set i (some r1)) (σ.set i (some v1)) a := fun a o ev w => by
            rcases Own.setR l1 w with w | w
            · exact n2 a o ev w
            · exact n1' a w.1 w.2 (.inr ⟨o, ev⟩)
          have hl2 : j < (σ.set i (some v1)).length := by rw [← s1.len]; exact l2
          have s2 : RelE X.K H2 ((σ2.set i (some r1)).set j (some r2)) ((σ.set i (some v1)).set j (some v2)) := by
            cases hr : r2.own with
            | false =>
              cases r2 with
              | v d => exact s1.setV hl2 rv2
              | l _ => cases hr
              | m _ => cases hr
            | true =>
              obtain ⟨a, u, rfl, _, _⟩ := rv2.at hr
              exact s1.setR hl2 hr rv2 fun k ne s g o h => n2' a hr rfl ⟨k, s, g, o, h⟩
          have ex := xx2.sub (fun _ h => h) fun a h => Own.setR l2 h
          exact q _ _ (s2.keep kk) ⟨fun a u h n => kk _ _ (ex.1 a u h n), ex.2⟩ ((keep_set hpi).trans (keep_set hpj))
        · rw [if_neg l2] at q; exact q.elim
      · rw [if_neg l1] at q; exact q.elim
/-! ### name = [..], on one line -/
theorem snS_comp1 {i : Nat} {y : Str} {py : Pos} {elt tg iter : Expr} {ifs : List Expr} {scope : Scope} {own : List (Str × Nat)} {spos : Pos} {t : T} {k : It} {es cs : Es} {e : E} (hc : X.calm = true) (hN : X.N.Nodup) (hy : X.N[i]? = some y) (hyl : X.env.scope.names.lookup y = some .local) (hpi : i ∉ pn)
    (hsw : swapsWith (.ListComp elt [⟨tg, iter, ifs, 0⟩] scope pos) (some (.Name y py)) spos.line X.env = pure true) (hi : SnIt X C tg iter t.isT k es) (ok : BlkOk X.N X.env.scope scope own) (hv : ∀ i ∈ t.slots, i ∈ own.map (·.2))
    (hb : ∀ (s : Shared) (H : Hp) (D : Addr) (cl : List (Str × Addr)) (fp : List Addr), SnG (X.blk s H scope (compEnvC scope cl D X.env) fp) tg t ∧ SnC (X.blk s H scope (compEnvC scope cl D X.env) fp) C ifs cs ∧ Sn (X.blk s H scope (compEnvC scope cl D X.env) fp) C elt e)
    (hs : ∀ x, foldedSetIterable iter X.env x = pure x := by intro _; rfl) : SnS X C pn (.Assign [.Name y py] (.ListComp elt [⟨tg, iter, ifs, 0⟩] scope pos) spos) (.asg (.v i) (.comp (own.map (·.2)) t k es cs (.elt e))) := by
  refine ⟨ps_weak (ps_setLc (g := tG X.K t) (tt := tB' X.K (evC C cs)) (te := tD X.K (evD1 C e)) hc hN hy hyl hsw hi.i ok (fun s H D cl fp => (hb s H D cl fp).1.g) (fun s H D cl fp => (hb s H D cl fp).2.1.t) (fun s H D cl fp => (hb s H D cl fp).2.2.d) hs) fun D σ H q => ?_⟩
  exact comp_w1 hv (asgV_w hpi q)
theorem snS_comp2 {i : Nat} {y : Str} {py : Pos} {elt tg iter tg1 iter1 : Expr} {ifs ifs1 : List Expr} {scope : Scope} {own : List (Str × Nat)} {spos : Pos} {t t1 : T} {k k1 : It} {es cs es1 cs1 : Es} {e : E} (hc : X.calm = true) (hN : X.N.Nodup) (hy : X.N[i]? = some y) (hyl : X.env.scope.names.lookup y = some .local) (hpi : i ∉ pn)
    (hsw : swapsWith (.ListComp elt [⟨tg, iter, ifs, 0⟩, ⟨tg1, iter1, ifs1, 0⟩] scope pos) (some (.Name y py)) spos.line X.env = pure true) (hi : SnIt X C tg iter t.isT k es) (ok : BlkOk X.N X.env.scope scope own) (hv : ∀ i ∈ t.slots, i ∈ own.map (·.2)) (hv1 : ∀ i ∈ t1.slots, i ∈ own.map (·.2))
    (hb : ∀ (s : Shared) (H : Hp) (D : Addr) (cl : List (Str × Addr)) (fp : List Addr), SnG (X.blk s H scope (compEnvC scope cl D X.env) fp) tg t ∧ SnC (X.blk s H scope (compEnvC scope cl D X.env) fp) C ifs cs ∧ SnIt (X.blk s H scope (compEnvC scope cl D X.env) fp) C tg1 iter1 t1.isT k1 es1 ∧ SnG (X.blk s H scope (compEnvC scope cl D X.env) fp) tg1 t1 ∧
      SnC (X.blk s H scope (compEnvC scope cl D X.env) fp) C ifs1 cs1 ∧ Sn (X.blk s H scope (compEnvC scope cl D X.env) fp) C elt e)
    (hs : ∀ x, foldedSetIterable iter X.env x = pure x := by intro _; rfl) (hs1 : ∀ env x, foldedSetIterable iter1 env x = pure x := by intro _ _; rfl) :
    SnS X C pn (.Assign [.Name y py] (.ListComp elt [⟨tg, iter, ifs, 0⟩, ⟨tg1, iter1, ifs1, 0⟩] scope pos) spos) (.asg (.v i) (.comp (own.map (·.2)) t k es cs (.cons t1 k1 es1 cs1 (.elt e)))) := by
  refine ⟨ps_weak (ps_setLc2 (g := tG X.K t) (tt := tB' X.K (evC C cs)) (wi1 := tIt X.K t1.isT (srcOf C k1 es1)) (g1 := tG X.K t1) (tt1 := tB' X.K (evC C cs1)) (te := tD X.K (evD1 C e)) hc hN hy hyl hsw hi.i ok hv1 (fun s H D cl fp => (hb s H D cl fp).1.g) (fun s H D cl fp => (hb s H D cl fp).2.1.t) (fun s H D cl fp => (hb s H D cl fp).2.2.1.i) (fun s H D cl fp => (hb s H D cl fp).2.2.2.1.g) (fun s H D cl fp => (hb s H D cl fp).2.2.2.2.1.t) (fun s H D cl fp => (hb s H D cl fp).2.2.2.2.2.d) hs hs1) fun D σ H q => ?_⟩
  exact comp_w2 hv hv1 (asgV_w hpi q)
end
end Pv
end
section
/-! PvM: sets of numbers and texts, made from a row and walked at once: sorted(set(xs)). -/
namespace Pv
open PySem PySem.Spec PyProof.Rows L2

def keyE (e : Int × Value) : Key := match e.2 with
  | .int k _ => .inl k
  | .str x _ => .inr x
  | _ => .inl 0
def GoodK (w : World) (e : Int × Value) : Prop := ∃ k : Key, keyIs k e.2 = true ∧ e.1 = keyH w k
theorem keyE_of {k : Key} {e : Int × Value} (h : keyIs k e.2 = true) : keyE e = k := by
  unfold keyE
  rcases keyIs_shape h with ⟨i, t, rfl, q⟩ | ⟨x, t, rfl, q⟩ <;> rw [q]
theorem scan_of {k : Key} {v : Value} (h : keyIs k v = true) : v.scannable = true := by
  rcases keyIs_shape h with ⟨i, t, rfl, q⟩ | ⟨x, t, rfl, q⟩ <;> rw [q] <;> rfl
/-- the set at a; its table rises and can be walked -/
def SetRK (w : World) (h : Heap) (a : Addr) (S : Key → Bool) (n : Nat) : Prop :=
  ∃ o es ep t, h.get? a = some o ∧ o.ExactSet ∧ o.data = .set es ep t ∧ (∀ e ∈ es.toList, GoodK w e) ∧ (es.toList.map keyE).Nodup ∧ (∀ k, S k = true ↔ k ∈ es.toList.map keyE) ∧
    es.size < scanBound ∧ t.fits es.size = true ∧ es.size = n ∧ Ris t.place.toList ∧ (w.params.followText "set-order" = true ∨ t.led = true)
section
variable {P : Program} {w : World} {h h' : Heap} {a : Addr} {S : Key → Bool} {n : Nat}
theorem SetRK.at (R : SetRK w h a S n) (k : ∀ o, h.get? a = some o → h'.get? a = some o) : SetRK w h' a S n := by
  obtain ⟨o, es, ep, t, ho, r⟩ := R
  exact ⟨o, es, ep, t, k o ho, r⟩
theorem SetRK.congr {S' : Key → Bool} (R : SetRK w h a S n) (e : ∀ k, S' k = S k) : SetRK w h a S' n := by
  have q : S' = S := funext e
  rw [q]; exact R
theorem goodK_elems {l : List (Int × Value)} (g : ∀ e ∈ l, GoodK w e) : ElemsOf (mixKind P w) l := fun e he => by
  obtain ⟨k, h1, h2⟩ := g e he
  exact ⟨⟨k, h1, h2⟩, scan_of h1⟩
theorem goodK_is {e : Int × Value} (g : GoodK w e) (k : Key) : (mixKind P w).is k e.2 = true ↔ keyE e = k := by
  obtain ⟨k0, h1, _⟩ := g
  rw [keyE_of h1]
  constructor
  · intro z
    exact (mixKind P w).inj e.2 k0 k h1 z
  · rintro rfl
    exact h1
theorem goodK_mem {l : List (Int × Value)} (g : ∀ e ∈ l, GoodK w e) (k : Key) : k ∈ l.map keyE ↔ ∃ e ∈ l, (mixKind P w).is k e.2 = true := by
  rw [List.mem_map]
  constructor
  · rintro ⟨e, he, q⟩
    exact ⟨e, he, (goodK_is (g e he) k).2 q⟩
  · rintro ⟨e, he, q⟩
    exact ⟨e, he, (goodK_is (g e he) k).1 q⟩
end
section
variable {P : Program} {w : World} {A : Around} {E : Value → Shared → Prop} {s : Shared} {a : Addr} {S : Key → Bool} {n : Nat}
theorem setRK_tail {g : Bool → Sem Unit} (hg : ∀ (b : Bool) (s₁ : Shared) (Q' : Unit → Shared → Prop), Q' () s₁ → wpAny (model P w) A (g b) Q' E s₁)
    {o : Obj} {es : Array (Int × Value)} {ep : Nat} {t : SetTable} (ho : s.heap.get? a = some o) (hex : o.ExactSet) (hd : o.data = .set es ep t)
    {es1 : Array (Int × Value)} {t2 : SetTable} {S' : Key → Bool} (g1 : ∀ e ∈ es1.toList, GoodK w e) (nd1 : (es1.toList.map keyE).Nodup) (m1 : ∀ k, S' k = true ↔ k ∈ es1.toList.map keyE)
    (hb1 : es1.size < scanBound) (hf2 : t2.fits es1.size = true) (hr : Ris t2.place.toList) (hl : w.params.followText "set-order" = true ∨ t2.led = true) {wasDummy : Bool} {R : Option Bool → Shared → Prop}
    (hR : ∀ h', Heap.SameBut a s.heap h' → SetRK w h' a S' es1.size → R (some true) { s with heap := h' }) :
    wpAny (model P w) A (do
        storeSet a es1 t2
        if (!wasDummy && t2.tooFull) = true then do
            g (relayAll t2 es1 (SetTable.grown es1.size)).2.2
            storeSet a (relayAll t2 es1 (SetTable.grown es1.size)).1 (relayAll t2 es1 (SetTable.grown es1.size)).2.1
            pure (some true)
          else pure (some true)) R E s := by
  refine wpAny_bind (wpAny_storeSet_of ho hd ?_ (fits_of_scanBound hb1))
  have ho1 := store_at (es' := es1) (t' := t2) ho hd
  have sb1 := Heap.SameBut.update s.heap a (Obj.putSet es1 t2)
  split
  · have pm := relayAll_perm t2 es1 (SetTable.grown es1.size)
    have hf3 := relayAll_fits t2 es1 (SetTable.grown es1.size)
    have hr3 := relayAll_ris t2 es1 (SetTable.grown es1.size)
    have hl3 := relayAll_led t2 es1 (SetTable.grown es1.size)
    generalize relayAll t2 es1 (SetTable.grown es1.size) = Z at pm hf3 hr3 hl3 ⊢
    obtain ⟨es2, t3, gave⟩ := Z
    dsimp only at pm hf3 hr3 hl3 ⊢
    have hsz : es2.size = es1.size := by rw [← Array.length_toList, pm.length_eq, Array.length_toList]
    have hb2 : es2.size < scanBound := by rw [hsz]; exact hb1
    refine wpAny_bind (hg _ _ _ ?_)
    refine wpAny_bind (wpAny_storeSet_of ho1 rfl ?_ (fits_of_scanBound hb2))
    have ho2 := store_at (es' := es2) (t' := t3) ho1 rfl
    refine wpAny_pure (hR _ (sb1.trans (Heap.SameBut.update _ a _)) ?_)
    exact ⟨_, es2, _, t3, ho2, hex, rfl, fun e he => g1 e (pm.mem_iff.mp he), (pm.map keyE).nodup_iff.mpr nd1, fun k => (m1 k).trans (pm.map keyE).mem_iff.symm, hb2, hf3, hsz, hr3,
      hl.imp id fun z => by rw [hl3]; exact z⟩
  · exact wpAny_pure (hR _ sb1 ⟨_, es1, _, t2, ho1, hex, rfl, g1, nd1, m1, hb1, hf2, rfl, hr, hl⟩)
theorem setRK_add {k : Key} {v : Value} {Q : Bool → Shared → Prop} (R : SetRK w s.heap a S n) (hkey : (mixKind P w).is k v = true) (room : n + 1 < scanBound)
    (hQ : ∀ h', Heap.SameBut a s.heap h' → SetRK w h' a (fun j => S j || decide (j = k)) (if S k = true then n else n + 1) → Q (!S k) { s with heap := h' }) :
    wpAny (model P w) A (setAddHashed a v ((mixKind P w).hash k)) Q E s := by
  obtain ⟨o, es, ep, t, ho, hex, hd, g, nd, hm, hb, hf, hn, hr, hl⟩ := R
  have hsc : v.scannable = true := scan_of hkey
  have hel : ElemsOf (mixKind P w) es.toList := goodK_elems g
  unfold setAddHashed setAddHashedIn
  refine wpAny_holding (wpAny_bind (wpAny_setState_of ho hd hf ?_))
  dsimp only
  rw [byScan_of hsc hb hel]
  simp only [↓reduceIte]
  unfold setAddByScan
  refine wpAny_bind ?_
  refine wpAny_bind (wpAny_rule ?_)
  refine wpAny_bind (wpAny_setScan_of hkey ho hd hf hel ?_)
  cases hfi : List.findIdx? (fun e => (mixKind P w).is k e.2) es.toList with
  | some j =>
    dsimp only
    obtain ⟨hj, pj, _⟩ := List.findIdx?_eq_some_iff_getElem.mp hfi
    have hSk : S k = true := (hm k).2 ((goodK_mem (P := P) (w := w) g k).2 ⟨es.toList[j], List.getElem_mem hj, pj⟩)
    refine wpAny_pure (wpAny_pure ?_)
    have q := hQ s.heap (Heap.SameBut.refl a s.heap) ⟨o, es, ep, t, ho, hex, hd, g, nd, fun i => by
      rw [Bool.or_eq_true, decide_eq_true_eq, ← hm i]
      exact ⟨fun z => z.elim id (fun e => e ▸ hSk), .inl⟩, hb, hf, by rw [if_pos hSk]; exact hn, hr, hl⟩
    rw [hSk] at q
    exact q
  | none =>
    dsimp only
    have hnk : k ∉ es.toList.map keyE := fun z => by
      obtain ⟨e, he, q⟩ := (goodK_mem (P := P) (w := w) g k).1 z
      have c := List.findIdx?_eq_none_iff.mp hfi e he
      rw [q] at c
      cases c
    have hSk : S k = false := by
      cases q : S k with
      | false => rfl
      | true => exact absurd ((hm k).1 q) hnk
    have hgw : ∀ (b : Bool) {s₁ : Shared} {Q' : Unit → Shared → Prop}, Q' () s₁ → wpAny (model P w) A (match b with | true => rule "set.scan.the-table-gave-way" | false => pure ()) Q' E s₁ :=
      fun b s₁ Q' q => by cases b <;> first | exact wpAny_pure q | exact wpAny_rule q
    have pm := layNew_perm t es ((mixKind P w).hash k) v
    have hf1 := layNew_fits t es ((mixKind P w).hash k) v
    have hr1 := layNew_ris t es ((mixKind P w).hash k) v hr
    have hl1 := layNew_led t es ((mixKind P w).hash k) v
    generalize layNew t es ((mixKind P w).hash k) v = Z at pm hf1 hr1 hl1 ⊢
    obtain ⟨es1, t1, wasDummy, gave⟩ := Z
    dsimp only at pm hf1 hr1 hl1 ⊢
    rw [Array.toList_push] at pm
    have pc : es1.toList.Perm (((mixKind P w).hash k, v) :: es.toList) := pm.trans (List.perm_append_singleton _ _)
    have pk : (es1.toList.map keyE).Perm (k :: es.toList.map keyE) := by
      have z := pc.map keyE
      rw [List.map_cons, keyE_of (e := ((mixKind P w).hash k, v)) hkey] at z
      exact z
    have g1 : ∀ e ∈ es1.toList, GoodK w e := fun e he => by
      rcases List.mem_cons.mp (pc.mem_iff.mp he) with z | z
      · rw [z]; exact ⟨k, hkey, rfl⟩
      · exact g e z
    have nd1 : (es1.toList.map keyE).Nodup := pk.nodup_iff.mpr (List.nodup_cons.mpr ⟨hnk, nd⟩)
    have m1 : ∀ i, (S i || decide (i = k)) = true ↔ i ∈ es1.toList.map keyE := fun i => by
      rw [Bool.or_eq_true, decide_eq_true_eq, hm i, pk.mem_iff, List.mem_cons]
      exact Or.comm
    have hsz : es1.size = n + 1 := by rw [← Array.length_toList, pc.length_eq, List.length_cons, Array.length_toList, hn]
    have hb1 : es1.size < scanBound := by rw [hsz]; exact room
    have hled : w.params.followText "set-order" = true ∨ t1.led = true := hl.imp id fun z => by rw [hl1]; exact z
    have fin : ∀ h', Heap.SameBut a s.heap h' → SetRK w h' a (fun j => S j || decide (j = k)) es1.size → Q true { s with heap := h' } := fun h' sb r => by
      have q := hQ h' sb
      rw [hSk] at q
      rw [hsz] at r
      exact q r
    refine wpAny_bind (hgw _ ?_)
    split
    · refine wpAny_bind ?_
      rw [hashByValue_scannable 8 hsc]
      refine wpAny_pure ?_
      refine setRK_tail ?_ ho hex hd g1 nd1 m1 hb1 ?_ ?_ ?_ ?_
      · intro b s₁ Q' q; cases b <;> first | exact wpAny_pure q | exact wpAny_rule q
      · first | (split <;> first | exact hf1 | exact SetTable.fits_plain_off hf1) | exact hf1
      · first | (split <;> exact hr1) | exact hr1
      · first | (split <;> exact hled) | exact hled
      · intro h' sb r; dsimp only; exact wpAny_pure (fin h' sb r)
    · refine wpAny_bind (wpAny_pure ?_)
      simp only [↓reduceIte]
      refine setRK_tail ?_ ho hex hd g1 nd1 m1 hb1 hf1 hr1 hled ?_
      · intro b s₁ Q' q; cases b <;> first | exact wpAny_pure q | exact wpAny_rule q
      · intro h' sb r; dsimp only; exact wpAny_pure (fin h' sb r)
theorem setRK_fresh {h : Heap} (hS : h.get? a = some { cls := .type "set", dict := none, data := .set #[] 0 (.fresh 0 0 (!w.params.followText "set-order")) }) : SetRK w h a (fun _ => false) 0 :=
  ⟨_, #[], 0, _, hS, ⟨rfl, rfl, rfl⟩, rfl, (fun e he => by simp at he), (by simp), (fun k => by simp), (by decide), (by rfl), rfl, List.Pairwise.nil, by
    show _ ∨ (!w.params.followText "set-order") = true
    cases w.params.followText "set-order"
    · exact .inr rfl
    · exact .inl rfl⟩

/-! ### set(xs) -/
def hasK (ks : List Key) (j : Key) : Bool := ks.any fun q => decide (q = j)
theorem set_update_keys {R : Result → Shared → Prop} {I : Addr} {fp wr : List Addr} {G : Array GenState → Array GenState → Prop} {n : Nat} {Pv : Nat → Value → Prop} {St : Nat → Shared → Prop} (W : WalksS P w A.in1 I fp wr G n Pv St) (Sa : Addr) (hSf : Sa ∉ fp)
    (ks : List Key) (hn : n = ks.length) (hval : ∀ i v, Pv i v → ∃ k, ks[i]? = some k ∧ keyIs k v = true) (hb : n + 1 < scanBound) :
    ∀ (k i : Nat) (s : Shared), n - i = k → i ≤ n → St i s → (∃ c, c ≤ i ∧ SetRK w s.heap Sa (hasK (ks.take i)) c) →
      (∀ s' c, Moved (Sa :: wr) G s s' → c ≤ n → SetRK w s'.heap Sa (hasK ks) c → R (.ok (.ret .none)) s') →
      codeAny (model P w) A (.builtin "set.update.loop" ⟨[.ref Sa, .ref I], []⟩) R s := by
  have hSw : Sa ∉ wr := fun h => hSf (W.sub _ h)
  have hsub : ∀ b ∈ wr, b ∈ Sa :: wr := fun b hb => List.mem_cons_of_mem _ hb
  intro k
  induction k with
  | zero =>
    intro i s hk hi hst hS hR
    have hin : i = n := by omega
    subst hin
    obtain ⟨c, hc, hS⟩ := hS
    refine codeAny_builtin F.entry_set_update_loop ?_
    rw [Around.under_plainId F.plain_set_update_loop _]
    show wpAny _ A.in1 (pyNext (.ref I) >>= _) _ _ s
    refine wpAny_bind (W.done s _ _ hst fun s' hm => ?_)
    show wpAny _ A.in1 (ret Value.none) _ _ s'
    rw [hn, List.take_length] at hS
    exact wpAny_pure (hR s' c (hm.mono hsub) hc (hS.at fun o e => hm.heap Sa _ hSw e))
  | succ k ih =>
    intro i s hk hi hst hS hR
    have hlt : i < n := by omega
    obtain ⟨c, hc, hS⟩ := hS
    refine codeAny_builtin F.entry_set_update_loop ?_
    rw [Around.under_plainId F.plain_set_update_loop _]
    show wpAny _ A.in1 (pyNext (.ref I) >>= _) _ _ s
    refine wpAny_bind (W.item i s _ _ hlt hst fun v s' hP hst' hm => ?_)
    obtain ⟨q, hq, hv⟩ := hval i v hP
    have hS' := hS.at fun o e => hm.heap Sa _ hSw e
    show wpAny _ A.in1 (holding [v] (setAdd Sa v) >>= _) _ _ s'
    refine wpAny_bind (wpAny_holding ?_)
    unfold setAdd
    refine wpAny_holding ?_
    refine wpAny_bind ((mixKind P w).pyHash (k := q) hv ?_)
    refine setRK_add (P := P) (s := { s' with toks := s'.toks + 1 }) hS' hv (by omega) fun h' hsb hS2 => ?_
    have hSi : SetRK w h' Sa (hasK (ks.take (i + 1))) (if hasK (ks.take i) q = true then c else c + 1) := by
      refine hS2.congr fun j => ?_
      unfold hasK
      rw [List.take_add_one, hq, List.any_append]
      simp only [Option.toList_some, List.any_cons, List.any_nil, Bool.or_false]
      congr 1
      exact decide_eq_decide.mpr ⟨Eq.symm, Eq.symm⟩
    refine wpAny_pure ⟨plainId_quiet F.plain_set_update_loop _, ih (i + 1) _ (by omega) hlt (W.frame _ s' _ _ hst' (Nat.le_succ _) fun b hb o e => ?_) ⟨_, ?_, hSi⟩ fun s'' c2 hm'' hc2 hS'' => ?_⟩
    · rw [hsb.2 b (fun h : b = Sa => hSf (by rw [← h]; exact hb))]; exact e
    · split <;> omega
    · refine hR s'' c2 (Moved.trans W.gtrans ((hm.mono hsub).then_heap (Nat.le_succ _) fun b o hb e => ?_) hm'') hc2 hS''
      rw [hsb.2 b (fun h : b = Sa => hb (by rw [h]; exact List.mem_cons_self))]; exact e

set_option maxRecDepth 100000 in
set_option maxHeartbeats 3200000 in
/-- set(xs) of a list of numbers and texts -/
theorem call_set_listK {l : Addr} {items : Array Value} (ks : List Key) {Q : Value → Shared → Prop} (hh : A.handled = none) (hl : s.heap.IsList l items) (hsz : items.size = ks.length)
    (hit : ∀ (i : Nat) (v : Value), items[i]? = some v → ∃ k, ks[i]? = some k ∧ keyIs k v = true) (hb : ks.length + 1 < scanBound)
    (h : ∀ (h' : Heap) (tk c : Nat), SetRK w h' s.heap.objs.size (hasK ks) c → c ≤ ks.length → (∀ b o, s.heap.get? b = some o → h'.get? b = some o) → Q (.ref s.heap.objs.size) { s with heap := h', toks := tk }) :
    wpAny (model P w) A (call (.type "set") [.ref l]) Q E s := by
  obtain ⟨c, tl, hmro⟩ := F.called_set.mro
  have hmade := F.called_set.made
  have hsub := F.called_set.sub
  refine wpAny_call (codeAny_of_tree ?_)
  show wpAny _ _ (callAny (.type "set") _) _ _ _
  refine wpAny_pure ⟨Code.quiet_builtin _ (by decide +kernel), codeAny_builtin F.entry_type_call ?_⟩
  rw [Around.under_plain (weight_type_call_type "set" [.ref l] []) rfl]
  have h1 := F.called_set.notType
  have h2 := F.called_set.canCreate
  have hct := F.typeCall_set_1 (.ref l)
  repeat (any_goals (first | assumption | wp_step))
  refine codeAny_mono (code_set_led1 (.ref l) (E := E) (Q₁ := fun obj s₁ => obj = .ref s.heap.objs.size ∧ s₁ = { s with heap := s.heap.push { cls := .type "set", dict := none, data := .set #[] 0 (.fresh 0 0 (!w.params.followText "set-order")) } }) ⟨rfl, rfl⟩) fun r s₁ hr => ?_
  cases r with
  | error e => exact hr
  | ok fl =>
    cases fl with
    | ret obj =>
      obtain ⟨rfl, rfl⟩ := hr
      have hS : (s.heap.push { cls := .type "set", dict := none, data := .set #[] 0 (.fresh 0 0 (!w.params.followText "set-order")) }).get? s.heap.objs.size = some { cls := .type "set", dict := none, data := .set #[] 0 (.fresh 0 0 (!w.params.followText "set-order")) } := Heap.get?_push_size _ rfl
      have hT : Shared.TypeIs { s with heap := s.heap.push { cls := .type "set", dict := none, data := .set #[] 0 (.fresh 0 0 (!w.params.followText "set-order")) } } (.ref s.heap.objs.size) "set" := ⟨_, hS, rfl⟩
      have hli := F.called_set.init.lookup
      have hbi := F.called_set.init.bind (.ref s.heap.objs.size)
      repeat (any_goals (first | assumption | wp_step))
      refine codeAny_mono (codeAny_call_builtin (R := wants (fun r s₂ => r = .none ∧ ∃ h' tk c, s₂ = { s with heap := h', toks := tk } ∧ SetRK w h' s.heap.objs.size (hasK ks) c ∧ c ≤ ks.length ∧
          (∀ b o, s.heap.get? b = some o → h'.get? b = some o)) E) F.called_set.init.plain F.entry_set_init (check_set_init_1 hT ?_)) fun r₂ s₂ hr₂ => ?_
      · obtain ⟨ol, hol, hcl, nl, hdl⟩ := hl
        obtain ⟨ocls, odict, odata, oslots⟩ := ol
        simp only at hcl hdl
        subst hcl; subst hdl
        have hol' : (s.heap.push { cls := .type "set", dict := none, data := .set #[] 0 (.fresh 0 0 (!w.params.followText "set-order")) }).get? l = some { cls := .type "list", dict := odict, data := .seq items nl, slots := oslots } := Heap.get?_push_of_some _ hol
        have hsls := F.sub_list_set
        have hslf := F.sub_list_frozenset
        have hne : (Value.type "list" == Value.type "dict") = false := by decide
        have hl1 : (s.heap.push { cls := .type "set", dict := none, data := .set #[] 0 (.fresh 0 0 (!w.params.followText "set-order")) }).IsList l items := ⟨_, hol', rfl, nl, rfl⟩
        unfold Builtin.«set.__init__» noKeywords Builtin.Frozenset.updateFrom
        generalize hPI : pyIter = PI
        wp_walk
        subst hPI
        refine wpAny_pyIter_list hl1 ?_
        refine wpAny_bind (wpAny_runValue ?_)
        have hlS : l < s.heap.objs.size := Heap.lt_size hol
        have hh3 : A.in1.in1.in1.handled = none := by simp [hh]
        have hneI : l ≠ (s.heap.push { cls := .type "set", dict := none, data := .set #[] 0 (.fresh 0 0 (!w.params.followText "set-order")) }).objs.size := by
          rw [Heap.size_push]; exact Nat.ne_of_lt (Nat.lt_succ_of_lt hlS)
        have hSf : s.heap.objs.size ∉ [(s.heap.push { cls := .type "set", dict := none, data := .set #[] 0 (.fresh 0 0 (!w.params.followText "set-order")) }).objs.size, l] := by
          rw [Heap.size_push]; simp only [List.mem_cons, List.mem_singleton, List.not_mem_nil, or_false, not_or]
          exact ⟨Nat.ne_of_lt (Nat.lt_succ_self _), Nat.ne_of_gt hlS⟩
        refine set_update_keys (P := P) (w := w) ((Walks.list hh3 _ l hneI items).toS) s.heap.objs.size
          hSf ks hsz hit (by rw [hsz]; exact hb) (items.size - 0) 0 _ (by omega) (Nat.zero_le _)
          ⟨⟨_, Heap.get?_push_size _ rfl, rfl, rfl⟩, (hl1.push _)⟩ ?hS0 ?hR
        case hS0 =>
          have hget : ((s.heap.push { cls := .type "set", dict := none, data := .set #[] 0 (.fresh 0 0 (!w.params.followText "set-order")) }).push { cls := .type "list_iterator", data := .fields #[.ref l, .int 0 0] }).get? s.heap.objs.size
              = some { cls := .type "set", dict := none, data := .set #[] 0 (.fresh 0 0 (!w.params.followText "set-order")) } := Heap.get?_push_of_some _ hS
          exact ⟨0, Nat.le_refl 0, setRK_fresh hget⟩
        case hR =>
          intro s' c' hm hc' hS'
          obtain ⟨h', g2, d', tk', os'⟩ := s'
          have eg : g2 = s.gens := hm.gens
          have ed : d' = s.drawn := hm.drawn
          have eo : os' = s.os := hm.os
          subst eg; subst ed; subst eo
          show wpAny _ _ _ _ _ _
          refine wpAny_pure ?_
          show wpAny _ _ (ret Value.none) _ _ _
          rw [hsz] at hc'
          refine wpAny_pure ⟨rfl, h', tk', c', rfl, hS', hc', fun b o e => ?_⟩
          have hb0 : b < s.heap.objs.size := Heap.lt_size e
          have hb1 : b ≠ s.heap.objs.size := Nat.ne_of_lt hb0
          have hb2 : b ≠ (s.heap.push { cls := .type "set", dict := none, data := .set #[] 0 (.fresh 0 0 (!w.params.followText "set-order")) }).objs.size := by
            rw [Heap.size_push]; exact Nat.ne_of_lt (Nat.lt_succ_of_lt hb0)
          exact hm.heap b o (by simp only [List.mem_cons, List.mem_singleton, List.not_mem_nil, or_false, not_or]; exact ⟨hb1, hb2⟩) (Heap.get?_push_of_some _ (Heap.get?_push_of_some _ e))
      · cases r₂ with
        | error e => exact hr₂
        | ok fl₂ =>
          cases fl₂ with
          | ret r =>
            obtain ⟨rfl, h', tk, c', rfl, hS', hc', hk'⟩ := hr₂
            repeat (any_goals (first | assumption | wp_step))
            exact h _ _ _ hS' hc' hk'
          | _ => exact hr₂.elim
    | _ => exact hr.elim

set_option maxRecDepth 100000 in
set_option maxHeartbeats 3200000 in
/-- set(xs) of a tuple of numbers and texts -/
theorem call_set_tupleK {l : Addr} {items : Array Value} (ks : List Key) {Q : Value → Shared → Prop} (hh : A.handled = none) (hl : s.heap.IsTuple l items) (hsz : items.size = ks.length)
    (hit : ∀ (i : Nat) (v : Value), items[i]? = some v → ∃ k, ks[i]? = some k ∧ keyIs k v = true) (hb : ks.length + 1 < scanBound)
    (h : ∀ (h' : Heap) (tk c : Nat), SetRK w h' s.heap.objs.size (hasK ks) c → c ≤ ks.length → (∀ b o, s.heap.get? b = some o → h'.get? b = some o) → Q (.ref s.heap.objs.size) { s with heap := h', toks := tk }) :
    wpAny (model P w) A (call (.type "set") [.ref l]) Q E s := by
  obtain ⟨c, tl, hmro⟩ := F.called_set.mro
  have hmade := F.called_set.made
  have hsub := F.called_set.sub
  refine wpAny_call (codeAny_of_tree ?_)
  show wpAny _ _ (callAny (.type "set") _) _ _ _
  refine wpAny_pure ⟨Code.quiet_builtin _ (by decide +kernel), codeAny_builtin F.entry_type_call ?_⟩
  rw [Around.under_plain (weight_type_call_type "set" [.ref l] []) rfl]
  have h1 := F.called_set.notType
  have h2 := F.called_set.canCreate
  have hct := F.typeCall_set_1 (.ref l)
  repeat (any_goals (first | assumption | wp_step))
  refine codeAny_mono (code_set_led1 (.ref l) (E := E) (Q₁ := fun obj s₁ => obj = .ref s.heap.objs.size ∧ s₁ = { s with heap := s.heap.push { cls := .type "set", dict := none, data := .set #[] 0 (.fresh 0 0 (!w.params.followText "set-order")) } }) ⟨rfl, rfl⟩) fun r s₁ hr => ?_
  cases r with
  | error e => exact hr
  | ok fl =>
    cases fl with
    | ret obj =>
      obtain ⟨rfl, rfl⟩ := hr
      have hS : (s.heap.push { cls := .type "set", dict := none, data := .set #[] 0 (.fresh 0 0 (!w.params.followText "set-order")) }).get? s.heap.objs.size = some { cls := .type "set", dict := none, data := .set #[] 0 (.fresh 0 0 (!w.params.followText "set-order")) } := Heap.get?_push_size _ rfl
      have hT : Shared.TypeIs { s with heap := s.heap.push { cls := .type "set", dict := none, data := .set #[] 0 (.fresh 0 0 (!w.params.followText "set-order")) } } (.ref s.heap.objs.size) "set" := ⟨_, hS, rfl⟩
      have hli := F.called_set.init.lookup
      have hbi := F.called_set.init.bind (.ref s.heap.objs.size)
      repeat (any_goals (first | assumption | wp_step))
      refine codeAny_mono (codeAny_call_builtin (R := wants (fun r s₂ => r = .none ∧ ∃ h' tk c, s₂ = { s with heap := h', toks := tk } ∧ SetRK w h' s.heap.objs.size (hasK ks) c ∧ c ≤ ks.length ∧
          (∀ b o, s.heap.get? b = some o → h'.get? b = some o)) E) F.called_set.init.plain F.entry_set_init (check_set_init_1 hT ?_)) fun r₂ s₂ hr₂ => ?_
      · obtain ⟨ol, hol, hcl, nl, hdl⟩ := hl
        obtain ⟨ocls, odict, odata, oslots⟩ := ol
        simp only at hcl hdl
        subst hcl; subst hdl
        have hol' : (s.heap.push { cls := .type "set", dict := none, data := .set #[] 0 (.fresh 0 0 (!w.params.followText "set-order")) }).get? l = some { cls := .type "tuple", dict := odict, data := .seq items nl, slots := oslots } := Heap.get?_push_of_some _ hol
        have hsls := F.sub_tuple_set
        have hslf := F.sub_tuple_frozenset
        have hne : (Value.type "tuple" == Value.type "dict") = false := by decide
        have hl1 : (s.heap.push { cls := .type "set", dict := none, data := .set #[] 0 (.fresh 0 0 (!w.params.followText "set-order")) }).IsTuple l items := ⟨_, hol', rfl, nl, rfl⟩
        unfold Builtin.«set.__init__» noKeywords Builtin.Frozenset.updateFrom
        generalize hPI : pyIter = PI
        wp_walk
        subst hPI
        refine wpAny_pyIter_tuple hl1 ?_
        refine wpAny_bind (wpAny_runValue ?_)
        have hlS : l < s.heap.objs.size := Heap.lt_size hol
        have hh3 : A.in1.in1.in1.handled = none := by simp [hh]
        have hneI : l ≠ (s.heap.push { cls := .type "set", dict := none, data := .set #[] 0 (.fresh 0 0 (!w.params.followText "set-order")) }).objs.size := by
          rw [Heap.size_push]; exact Nat.ne_of_lt (Nat.lt_succ_of_lt hlS)
        have hSf : s.heap.objs.size ∉ [(s.heap.push { cls := .type "set", dict := none, data := .set #[] 0 (.fresh 0 0 (!w.params.followText "set-order")) }).objs.size, l] := by
          rw [Heap.size_push]; simp only [List.mem_cons, List.mem_singleton, List.not_mem_nil, or_false, not_or]
          exact ⟨Nat.ne_of_lt (Nat.lt_succ_self _), Nat.ne_of_gt hlS⟩
        refine set_update_keys (P := P) (w := w) ((Walks.tuple hh3 _ l hneI items).toS) s.heap.objs.size
          hSf ks hsz hit (by rw [hsz]; exact hb) (items.size - 0) 0 _ (by omega) (Nat.zero_le _)
          ⟨⟨_, Heap.get?_push_size _ rfl, rfl, rfl⟩, (hl1.push _)⟩ ?hS0 ?hR
        case hS0 =>
          have hget : ((s.heap.push { cls := .type "set", dict := none, data := .set #[] 0 (.fresh 0 0 (!w.params.followText "set-order")) }).push { cls := .type "tuple_iterator", data := .fields #[.ref l, .int 0 0] }).get? s.heap.objs.size
              = some { cls := .type "set", dict := none, data := .set #[] 0 (.fresh 0 0 (!w.params.followText "set-order")) } := Heap.get?_push_of_some _ hS
          exact ⟨0, Nat.le_refl 0, setRK_fresh hget⟩
        case hR =>
          intro s' c' hm hc' hS'
          obtain ⟨h', g2, d', tk', os'⟩ := s'
          have eg : g2 = s.gens := hm.gens
          have ed : d' = s.drawn := hm.drawn
          have eo : os' = s.os := hm.os
          subst eg; subst ed; subst eo
          show wpAny _ _ _ _ _ _
          refine wpAny_pure ?_
          show wpAny _ _ (ret Value.none) _ _ _
          rw [hsz] at hc'
          refine wpAny_pure ⟨rfl, h', tk', c', rfl, hS', hc', fun b o e => ?_⟩
          have hb0 : b < s.heap.objs.size := Heap.lt_size e
          have hb1 : b ≠ s.heap.objs.size := Nat.ne_of_lt hb0
          have hb2 : b ≠ (s.heap.push { cls := .type "set", dict := none, data := .set #[] 0 (.fresh 0 0 (!w.params.followText "set-order")) }).objs.size := by
            rw [Heap.size_push]; exact Nat.ne_of_lt (Nat.lt_succ_of_lt hb0)
          exact hm.heap b o (by simp only [List.mem_cons, List.mem_singleton, List.not_mem_nil, or_false, not_or]; exact ⟨hb1, hb2⟩) (Heap.get?_push_of_some _ (Heap.get?_push_of_some _ e))
      · cases r₂ with
        | error e => exact hr₂
        | ok fl₂ =>
          cases fl₂ with
          | ret r =>
            obtain ⟨rfl, h', tk, c', rfl, hS', hc', hk'⟩ := hr₂
            repeat (any_goals (first | assumption | wp_step))
            exact h _ _ _ hS' hc' hk'
          | _ => exact hr₂.elim
    | _ => exact hr.elim

end
end Pv
end
section
/-! PvN: sorted(set(xs)). -/
namespace Pv
open PySem PySem.Spec PyProof.Rows L2 RZ

def keyV (v : Value) : Key := keyE (0, v)
theorem keyE_V (e : Int × Value) : keyE e = keyV e.2 := by
  unfold keyV keyE
  rfl
theorem each_keyV : ∀ {vs : List Value}, (∀ v ∈ vs, ∃ k, keyIs k v = true) → PySem.W.EachIs (fun v k => keyIs k v = true) vs (vs.map keyV)
  | [], _ => .nil
  | v :: vs, h => by
    obtain ⟨k, hk⟩ := h v List.mem_cons_self
    have e : keyV v = k := keyE_of (e := (0, v)) hk
    exact .cons (by rw [e]; exact hk) (each_keyV fun u hu => h u (List.mem_cons_of_mem _ hu))
section
variable {P : Program} {w : World} {A : Around} {E : Value → Shared → Prop} {s : Shared} {a : Addr} {Sk : Key → Bool} {n : Nat}
/-- sorted(set), its members by β -/
theorem sorted_setKy {β : Type} {emb : β → Key} {enc : β → PyData} (rd : ∀ (h : Heap) v b, keyIs (emb b) v = true → PySem.Reads h v (enc b) []) (inj : ∀ b c, emb b = emb c → b = c) (hal : ∀ b c, PySem.W.alike (enc b) (enc c) = true) (hno : ∀ b, enc b ≠ .none ∧ ∀ xs, enc b ≠ .tuple xs) (hdep : ∀ b, (enc b).depth = 0)
    {Q : Value → Shared → Prop} (R : SetRK w s.heap a Sk n) (hh : A.handled = none) (hu : A.units + 8 < cLine) (kd : ∀ k, Sk k = true → ∃ b, k = emb b)
    (hQ : ∀ s' p (out : List Value) (c : Nat) (bs bs' : List β), (∀ b o, s.heap.get? b = some o → s'.heap.get? b = some o) → s'.gens = s.gens → s'.os = s.os → s.heap.objs.size ≤ p →
      s'.heap.get? p = some (seqObj "list" out.toArray c) → PySem.W.EachIs (fun v b => keyIs (emb b) v = true) out (bs.mergeSort (PySem.W.dataLe false enc)) → bs.Nodup → (∀ b, b ∈ bs ↔ Sk (emb b) = true) → bs.length = n → Q (.ref p) s') :
    wpAny (model P w) A (call (.builtin "sorted") [.ref a]) Q E s := by
  obtain ⟨o, es, ep, t, ho, hex, hd, g, nd, hm, hb, hf, hn, hr, hl⟩ := R
  refine Calls.call_function_entry kind_sorted plain_sorted entry_sorted (args_sorted1 _) ?_
  unfold Builtin.«sorted»
  refine wpAny_bind (m := checkCount "sorted" 1 1 _) (wpAny_pure ?_)
  refine wpAny_bind (collect_set (A := A.in1) hh ⟨o, ho, hex.1, hd⟩ hf hb hr hl fun s1 vs k1 hz g1 o1 pm => ?_)
  have hvl : vs.length = n := by rw [pm.length_eq, List.length_map, Array.length_toList]; exact hn
  have kmap : es.toList.map keyE = (es.toList.map (·.2)).map keyV := by rw [List.map_map]; exact List.map_congr_left fun e _ => keyE_V e
  have pk : (vs.map keyV).Perm (es.toList.map keyE) := by rw [kmap]; exact pm.map keyV
  have hk : ∀ v ∈ vs, ∃ k, keyIs k v = true := fun v hv => by
    obtain ⟨e, he, q⟩ := List.mem_map.mp (pm.mem_iff.mp hv)
    obtain ⟨k, h1, _⟩ := g e he
    exact ⟨k, by rw [← q]; exact h1⟩
  -- the members, as b's
  have toB : ∀ l : List Key, (∀ k ∈ l, Sk k = true) → ∃ bs : List β, l = bs.map emb := by
    intro l
    induction l with
    | nil => intro _; exact ⟨[], rfl⟩
    | cons k l ih =>
      intro h
      obtain ⟨b, e⟩ := kd k (h k List.mem_cons_self)
      obtain ⟨bs, e2⟩ := ih fun q hq => h q (List.mem_cons_of_mem _ hq)
      exact ⟨b :: bs, by rw [List.map_cons, ← e, ← e2]⟩
  obtain ⟨bs, ebs⟩ := toB (vs.map keyV) fun k hk => (hm k).2 (pk.mem_iff.mp hk)
  have ev := each_keyV hk
  rw [ebs] at ev
  have ev' : PySem.W.EachIs (fun v b => keyIs (emb b) v = true) vs bs := by
    have : ∀ {vs : List Value} {bs : List β}, PySem.W.EachIs (fun v k => keyIs k v = true) vs (bs.map emb) → PySem.W.EachIs (fun v b => keyIs (emb b) v = true) vs bs := by
      intro vs
      induction vs with
      | nil => intro bs h; cases bs with | nil => exact .nil | cons b bs => cases h
      | cons v vs ih => intro bs h; cases bs with | nil => cases h | cons b bs => cases h with | cons h1 h2 => exact .cons h1 (ih h2)
    exact this ev
  have nbs : bs.Nodup := by
    have z : (bs.map emb).Nodup := by rw [← ebs]; exact pk.nodup_iff.mpr nd
    exact (List.pairwise_map.mp z).imp fun h e => h (by rw [e])
  have mbs : ∀ b, b ∈ bs ↔ Sk (emb b) = true := fun b => by
    rw [hm (emb b), ← pk.mem_iff, ebs, List.mem_map]
    exact ⟨fun h => ⟨b, h, rfl⟩, fun ⟨c, hc, e⟩ => by rw [← inj _ _ e]; exact hc⟩
  have lbs : bs.length = n := by rw [← hvl, ← List.length_map (f := keyV), ebs, List.length_map]
  have hsb : n ≤ sizeLine := by rw [← hn]; have h1 : scanBound ≤ sizeLine := by decide
                                exact Nat.le_trans (Nat.le_of_lt hb) h1
  refine wpAny_bind (wpAny_newList ?_ (by rw [hvl]; exact hsb))
  have hoL : (s1.heap.push (seqObj "list" vs.toArray 0)).get? s1.heap.objs.size = some (seqObj "list" vs.toArray 0) := Heap.get?_push_size _ rfl
  refine wpAny_bind (wpAny_holding (PySem.W.list_sort_data (R := fun v b => keyIs (emb b) v = true) (enc := enc) (bs := bs) hoL ev' (ev'.mono fun v b h => ⟨[], rd _ v b h, by simp⟩) (PySem.W.AllAlike.of hal) (PySem.W.Sortable.others hno) (by rw [lbs]; exact hsb) (fun b _ => by rw [hdep b]; simp only [Around.in1_units]; omega) fun out ol eo => ?_))
  obtain ⟨c, hc⟩ := sortedHeap_at (vs := vs) (out := out.toArray) hoL
  refine wpAny_pure ⟨_, rfl, hQ _ s1.heap.objs.size out c bs bs (fun b u e => ?_) g1 o1 hz hc eo nbs mbs lbs⟩
  have q := k1 b u e
  have hlt := Heap.lt_size q
  show (sortedHeap (s1.heap.push (seqObj "list" vs.toArray 0)) s1.heap.objs.size vs out.toArray).get? b = some u
  rw [sortedHeap_old (Nat.ne_of_lt hlt) (by rw [size_push']; exact Nat.lt_succ_of_lt hlt)]
  exact Heap.get?_push_of_some _ q
end

section
variable {X : Cx} {C : Ctx}
def SetKO (w : World) (a : Addr) (S : Key → Bool) (n : Nat) : HO := .ext fun h => SetRK w h a S n
theorem setKO_new {w : World} {P : Program} {H : Hp} {h : Heap} {a : Addr} {S : Key → Bool} {n : Nat} (R : SetRK w h a S n) : ObjOk P w H h a (SetKO w a S n) := by
  have ⟨o, _, _, _, ho, _⟩ := R
  exact ⟨R, ⟨o, ho⟩, fun h1 h2 p k => SetRK.at p k⟩
theorem keyIs_rel {k : Key} {v : Value} (r : RelV (kV k) v) : keyIs k v = true := by
  cases k with
  | inl i => obtain ⟨t, rfl⟩ := r; exact keyIs_int i t
  | inr x => obtain ⟨t, rfl⟩ := r; exact keyIs_str x t
theorem vals_keys : ∀ {ks : List Key} {us : List Value}, Vals (ks.map kV) us → us.length = ks.length ∧ ∀ (i : Nat) (v : Value), us[i]? = some v → ∃ k, ks[i]? = some k ∧ keyIs k v = true
  | [], _, .nil => ⟨rfl, fun i v h => by simp at h⟩
  | k :: ks, _, .cons r t => by
    obtain ⟨h1, h2⟩ := vals_keys t
    refine ⟨by rw [List.length_cons, List.length_cons, h1], fun i v h => ?_⟩
    cases i with
    | zero => simp at h; subst h; exact ⟨k, rfl, keyIs_rel r⟩
    | succ i => exact h2 i v (by simpa using h)
def rSetOfK (K : PySem.W.Frag) (w : World) : List V → Hp → VK → Prop := fun xs H Q => ∃ (l : Addr) (ks : List Key), xs = [V.ref l] ∧ (SqL K H l (ks.map kV) ∨ SqT K H l (ks.map kV)) ∧ ks.length + 1 < scanBound ∧
  ∀ a c, H a = none → Q (.ref a) (upd H a (SetKO w a (hasK ks) c))
theorem cr_setOfK (hc : X.calm = true) : CallR X (.type "set") (rSetOfK X.K X.w) := by
  intro pins s σ H xs us Q I r h
  obtain ⟨l, ks, rfl, hl, hb, q⟩ := h
  rw [Vals.ref1 r]
  have hn : H s.heap.objs.size = none := I.hok.fresh (Nat.le_refl _)
  rcases hl with hl | hl
  · obtain ⟨its, rv, pl, hz⟩ := I.list hl
    obtain ⟨z1, z2⟩ := vals_keys rv
    refine call_set_listK (P := X.prog) (w := X.w) ks (I.ok.hd hc) pl.isList (by simpa using z1) (fun i v h => z2 i v (by simpa using h)) hb fun h' tk c R _ k => ?_
    exact ⟨.ref s.heap.objs.size, upd H s.heap.objs.size (SetKO X.w s.heap.objs.size (hasK ks) c), I.laid (t' := tk) k (Nat.le_refl _) (setKO_new R), rfl, q _ c hn⟩
  · obtain ⟨its, rv, tl, hz⟩ := I.tuple hl
    obtain ⟨z1, z2⟩ := vals_keys rv
    refine call_set_tupleK (P := X.prog) (w := X.w) ks (I.ok.hd hc) tl (by simpa using z1) (fun i v h => z2 i v (by simpa using h)) hb fun h' tk c R _ k => ?_
    exact ⟨.ref s.heap.objs.size, upd H s.heap.objs.size (SetKO X.w s.heap.objs.size (hasK ks) c), I.laid (t' := tk) k (Nat.le_refl _) (setKO_new R), rfl, q _ c hn⟩
theorem vals_each {β : Type} {emb : β → Key} : ∀ {out : List Value} {bs : List β}, PySem.W.EachIs (fun v b => keyIs (emb b) v = true) out bs → Vals (bs.map fun b => kV (emb b)) out
  | _, _, .nil => .nil
  | _, _, .cons h t => by
    refine .cons ?_ (vals_each t)
    show RelV (kV (emb _)) _
    rcases keyIs_shape h with ⟨i, t, e, rfl⟩ | ⟨x, t, e, rfl⟩ <;> rw [e]
    · exact ⟨t, rfl⟩
    · exact ⟨t, rfl⟩
/-- sorted(set), its members by β -/
def rSortedK {β : Type} (emb : β → Key) (enc : β → PyData) (w : World) : List V → Hp → VK → Prop := fun vs H Q => ∃ (a : Addr) (S : Key → Bool) (n : Nat), vs = [V.ref a] ∧ H a = some (SetKO w a S n) ∧ (∀ k, S k = true → ∃ b, k = emb b) ∧
  ∀ (bs : List β) (p : Addr), bs.Nodup → (∀ b, b ∈ bs ↔ S (emb b) = true) → H p = none → Q (.ref p) (upd H p (.lst ((bs.mergeSort (PySem.W.dataLe false enc)).map fun b => kV (emb b))))
theorem cr_sortedK {β : Type} {emb : β → Key} {enc : β → PyData} (hc : X.calm = true) (hu : X.A.units + 8 < cLine) (rd : ∀ (h : Heap) v b, keyIs (emb b) v = true → PySem.Reads h v (enc b) []) (inj : ∀ b c, emb b = emb c → b = c) (hal : ∀ b c, PySem.W.alike (enc b) (enc c) = true) (hno : ∀ b, enc b ≠ .none ∧ ∀ xs, enc b ≠ .tuple xs) (hdep : ∀ b, (enc b).depth = 0) :
    CallR X (.builtin "sorted") (rSortedK emb enc X.w) := by
  intro pins s σ H vs us Q I r h
  obtain ⟨a, S, n, rfl, ha, kd, q⟩ := h
  have R : SetRK X.w s.heap a S n := (I.hok a _ ha).1
  rw [Vals.ref1 r]
  refine sorted_setKy rd inj hal hno hdep R (I.ok.hd hc) hu kd fun s' p out c bs _ k g o hp hg eo nd mb hl => ?_
  have hv := vals_each eo
  have hbn : n < scanBound := by
    obtain ⟨_, es, _, _, _, _, _, _, _, _, hb, _, hn, _⟩ := R
    omega
  have hlen : ((bs.mergeSort (PySem.W.dataLe false enc)).map fun b => kV (emb b)).length ≤ sizeLine := by
    rw [List.length_map, List.length_mergeSort, hl]
    have h1 : scanBound ≤ sizeLine := by decide
    omega
  have hn : H p = none := I.hok.fresh hp
  have J : Inv X pins σ (upd H p (.lst ((bs.mergeSort (PySem.W.dataLe false enc)).map fun b => kV (emb b)))) { s with heap := s'.heap, gens := s'.gens, drawn := s'.drawn, toks := s'.toks } :=
    I.call (ch := []) (Un.laid k hp hn) (I.hok.laid k hp ⟨hlen, out, c, hv, hg⟩) (by rw [g]; exact I.bare) (fun _ z => nomatch z)
  have e : s' = { s with heap := s'.heap, gens := s'.gens, drawn := s'.drawn, toks := s'.toks } := by
    cases s'
    cases s
    cases o
    rfl
  rw [e]
  exact ⟨.ref p, _, J, rfl, q bs p nd mb hn⟩
theorem cr_sortedKI (hc : X.calm = true) (hu : X.A.units + 8 < cLine) : CallR X (.builtin "sorted") (rSortedK (fun i : Int => (.inl i : Key)) (fun i => .int i) X.w) :=
  cr_sortedK hc hu (fun h v b e => by
    rcases keyIs_shape e with ⟨i, t, q, rfl⟩ | ⟨x, t, q, rfl⟩
    · cases q; exact .int _ _
    · cases q) (fun b c e => by cases e; rfl) (fun b c => by simp [PySem.W.alike]) (fun b => ⟨by simp, by simp⟩) (fun b => by simp [PyData.depth])
theorem cr_sortedKS (hc : X.calm = true) (hu : X.A.units + 8 < cLine) : CallR X (.builtin "sorted") (rSortedK (fun i : Str => (.inr i : Key)) (fun i => .str i) X.w) :=
  cr_sortedK hc hu (fun h v b e => by
    rcases keyIs_shape e with ⟨i, t, q, rfl⟩ | ⟨x, t, q, rfl⟩
    · cases q
    · cases q; exact .str _ _) (fun b c e => by cases e; rfl) (fun b c => by simp [PySem.W.alike]) (fun b => ⟨by simp, by simp⟩) (fun b => by simp [PyData.depth])

/-! ### the two together -/
theorem keys_of {K : PySem.W.Frag} {H : Hp} : ∀ {ks : List Key} {vs : List V}, Reps K H (ks.map keyD) vs → vs = ks.map kV
  | [], vs, r => r
  | k :: ks, vs, r => by
    obtain ⟨v, w, rfl, h1, h2⟩ := r
    rw [keys_of h2, List.map_cons]
    cases k with
    | inl i => rw [show v = .int i from h1]; rfl
    | inr x =>
      have : v = .str (st x.cps.toList) := h1
      rw [this]
      simp [st, kV]
theorem dedup_mem : ∀ {l : List D} {d : D}, d ∈ dedup l ↔ d ∈ l
  | [], d => by simp [dedup]
  | a :: r, d => by
    unfold dedup
    split
    · rename_i h
      obtain ⟨x, hx, e⟩ := List.any_eq_true.mp h
      have : a = x := beq_eq a x e
      rw [dedup_mem, List.mem_cons]
      exact ⟨.inr, fun z => z.elim (fun z => by rw [z, this]; exact hx) id⟩
    · rw [List.mem_cons, List.mem_cons, dedup_mem]
theorem dedup_nodup : ∀ l : List D, (dedup l).Nodup
  | [] => by simp [dedup]
  | a :: r => by
    unfold dedup
    split
    · exact dedup_nodup r
    · rename_i h
      refine List.nodup_cons.mpr ⟨fun z => h ?_, dedup_nodup r⟩
      exact List.any_eq_true.mpr ⟨a, dedup_mem.mp z, beq_refl a⟩
theorem toInts_eq : ∀ {l : List D} {ns : List Int}, toInts l = some ns → l = ns.map D.int
  | [], ns, h => by cases h; rfl
  | d :: l, ns, h => by
    cases d <;> simp only [toInts] at h <;> try (cases h)
    rename_i i
    cases e : toInts l with
    | none => rw [e] at h; cases h
    | some m => rw [e] at h; cases h; rw [toInts_eq e, List.map_cons]
theorem toStrs_eq : ∀ {l : List D} {ns : List (List Nat)}, toStrs l = some ns → l = ns.map D.str
  | [], ns, h => by cases h; rfl
  | d :: l, ns, h => by
    cases d <;> simp only [toStrs] at h <;> try (cases h)
    rename_i i
    cases e : toStrs l with
    | none => rw [e] at h; cases h
    | some m => rw [e] at h; cases h; rw [toStrs_eq e, List.map_cons]
theorem hasK_mem {ks : List Key} {k : Key} : hasK ks k = true ↔ k ∈ ks := by
  unfold hasK
  rw [List.any_eq_true]
  exact ⟨fun ⟨x, hx, e⟩ => by rw [← of_decide_eq_true e]; exact hx, fun h => ⟨k, h, decide_eq_true rfl⟩⟩
theorem back_ints : ∀ {l : List D}, (∀ d ∈ l, ∃ i, d = .int i) → ∃ ns : List Int, l = ns.map D.int
  | [], _ => ⟨[], rfl⟩
  | d :: l, h => by
    obtain ⟨i, rfl⟩ := h d List.mem_cons_self
    obtain ⟨ns, rfl⟩ := back_ints fun d hd => h d (List.mem_cons_of_mem _ hd)
    exact ⟨i :: ns, rfl⟩
theorem back_strs : ∀ {l : List D}, (∀ d ∈ l, ∃ i, d = .str i) → ∃ ns : List (List Nat), l = ns.map D.str
  | [], _ => ⟨[], rfl⟩
  | d :: l, h => by
    obtain ⟨i, rfl⟩ := h d List.mem_cons_self
    obtain ⟨ns, rfl⟩ := back_strs fun d hd => h d (List.mem_cons_of_mem _ hd)
    exact ⟨i :: ns, rfl⟩
theorem le_ints (l : List Int) : (l.mergeSort (PySem.W.dataLe false fun i => PyData.int i)).Pairwise (· ≤ ·) := by
  have e : (PySem.W.dataLe false fun i : Int => PyData.int i) = fun a b => decide (a ≤ b) := PySem.W.dataLe_int id
  rw [e]
  have := List.pairwise_mergeSort (le := fun a b : Int => decide (a ≤ b)) (fun a b c h1 h2 => by simp only [decide_eq_true_eq] at *; omega) (fun a b => by simp only [Bool.or_eq_true, decide_eq_true_eq]; omega) l
  exact this.imp fun h => of_decide_eq_true h
theorem le_strs (l : List Str) : ((l.mergeSort (PySem.W.dataLe false fun i => PyData.str i)).map fun x => x.cps.toList).Pairwise leS := by
  have e : (PySem.W.dataLe false fun i : Str => PyData.str i) = fun a b => decide (a.cps.toList ≤ b.cps.toList) := PySem.W.dataLe_str id
  rw [e, List.pairwise_map]
  have := List.pairwise_mergeSort (le := fun a b : Str => decide (a.cps.toList ≤ b.cps.toList)) (fun a b c h1 h2 => by simp only [decide_eq_true_eq] at *; exact List.le_trans h1 h2) (fun a b => by simp only [Bool.or_eq_true, decide_eq_true_eq]; exact List.le_total _ _) l
  refine this.imp fun h => ?_
  show ltL _ _ = false
  rw [ltL_lt, decide_eq_false_iff_not]
  exact of_decide_eq_true h
theorem grow2 {H : Hp} {a p : Addr} {u w : HO} (ha : H a = none) (hp : upd H a u p = none) : ∀ b x, H b = some x → upd (upd H a u) p w b = some x := fun b x h => by
  have n1 : b ≠ a := fun z => by subst z; rw [ha] at h; cases h
  have n2 : b ≠ p := fun z => by subst z; rw [upd_ne n1, h] at hp; cases hp
  rw [upd_ne n2, upd_ne n1]
  exact h
theorem none2 {H : Hp} {a p : Addr} {u : HO} (hp : upd H a u p = none) : H p = none := by
  by_cases e : p = a
  · subst e; rw [upd_same] at hp; cases hp
  · rw [upd_ne e] at hp; exact hp
theorem sset_post {K : PySem.W.Frag} {w : World} {l : List D} {r : R} {x : V} {H : Hp} {Q : VK} (hx : ∃ a vs, x = .ref a ∧ (SqL K H a vs ∨ SqT K H a vs) ∧ Reps K H l vs) (h1000 : l.length < 1000) (ho : (sortD (dedup l)).map R.l = some r)
    (q : ∀ v H', (∀ a u, H a = some u → H' a = some u) → (r.own = true → ∃ a, v = .ref a ∧ H a = none) → RepR K H' r v → Q v H') :
    rSetOfK K w [x] H fun y H1 => rSortedK (fun i : Int => (.inl i : Key)) (fun i => .int i) w [y] H1 Q ∨ rSortedK (fun i : Str => (.inr i : Key)) (fun i => .str i) w [y] H1 Q := by
  obtain ⟨a, vs, rfl, hs, hr⟩ := hx
  unfold sortD at ho
  split at ho
  · rename_i ns e
    cases ho
    have ed := toInts_eq e
    obtain ⟨ms, rfl⟩ := back_ints (l := l) fun d hd => by
      have := dedup_mem.mpr hd
      rw [ed] at this
      obtain ⟨i, _, e⟩ := List.mem_map.mp this
      exact ⟨i, e.symm⟩
    have hk : ms.map D.int = (ms.map Sum.inl : List Key).map keyD := by rw [List.map_map]; rfl
    have ev := keys_of (by rw [← hk]; exact hr)
    subst ev
    refine ⟨a, ms.map Sum.inl, rfl, hs, ?_, fun b c hb => .inl ⟨b, _, c, rfl, upd_same, ?_, ?_⟩⟩
    · rw [List.length_map] at h1000 ⊢
      unfold scanBound
      omega
    · intro k hk
      obtain ⟨i, _, e⟩ := List.mem_map.mp (hasK_mem.mp hk)
      exact ⟨i, e.symm⟩
    · intro bs p nd mem hp
      have nn : ns.Nodup := by
        have z := dedup_nodup (ms.map D.int)
        rw [ed] at z
        exact (List.pairwise_map.mp z).imp fun h e => h (by rw [e])
      have mm : ∀ i, i ∈ bs ↔ i ∈ ns := fun i => by
        rw [mem i, hasK_mem]
        have e1 : i ∈ ns ↔ D.int i ∈ dedup (ms.map D.int) := by
          rw [ed, List.mem_map]
          exact ⟨fun h => ⟨i, h, rfl⟩, fun ⟨j, hj, e⟩ => by cases e; exact hj⟩
        rw [e1, dedup_mem, List.mem_map, List.mem_map]
        exact ⟨fun ⟨j, hj, e⟩ => ⟨j, hj, by cases e; rfl⟩, fun ⟨j, hj, e⟩ => ⟨j, hj, by cases e; rfl⟩⟩
      have pm : (bs.mergeSort (PySem.W.dataLe false fun i => PyData.int i)).Perm ns := (List.mergeSort_perm _ _).trans ((List.perm_ext_iff_of_nodup nd nn).mpr mm)
      have es := sortI_unique pm (le_ints bs)
      show Q _ _
      rw [es]
      exact q _ _ (grow2 hb hp) (fun _ => ⟨p, rfl, none2 hp⟩) ⟨p, _, rfl, upd_same, reps_ints _⟩
  · split at ho
    · rename_i ss e
      split at ho
      · cases ho
        have ed := toStrs_eq e
        obtain ⟨ms, rfl⟩ := back_strs (l := l) fun d hd => by
          have := dedup_mem.mpr hd
          rw [ed] at this
          obtain ⟨i, _, e⟩ := List.mem_map.mp this
          exact ⟨i, e.symm⟩
        have hk : ms.map D.str = ((ms.map st).map Sum.inr : List Key).map keyD := by
          rw [List.map_map, List.map_map]
          refine List.map_congr_left fun x _ => ?_
          simp [keyD, st]
        have ev := keys_of (by rw [← hk]; exact hr)
        subst ev
        refine ⟨a, (ms.map st).map Sum.inr, rfl, hs, ?_, fun b c hb => .inr ⟨b, _, c, rfl, upd_same, ?_, ?_⟩⟩
        · rw [List.length_map] at h1000
          rw [List.length_map, List.length_map]
          unfold scanBound
          omega
        · intro k hk
          obtain ⟨i, _, e⟩ := List.mem_map.mp (hasK_mem.mp hk)
          exact ⟨i, e.symm⟩
        · intro bs p nd mem hp
          have st_inj : ∀ {a b : List Nat}, st a = st b → a = b := fun {a b} h => by
            have := congrArg (fun x : Str => x.cps.toList) h
            simpa [st] using this
          have nn : ss.Nodup := by
            have z := dedup_nodup (ms.map D.str)
            rw [ed] at z
            exact (List.pairwise_map.mp z).imp fun h e => h (by rw [e])
          have nn' : (ss.map st).Nodup := List.pairwise_map.mpr (nn.imp fun h e => h (st_inj e))
          have mm : ∀ i, i ∈ bs ↔ i ∈ ss.map st := fun i => by
            rw [mem i, hasK_mem]
            constructor
            · intro h
              obtain ⟨j, hj, e⟩ := List.mem_map.mp h
              cases e
              obtain ⟨m, hm, rfl⟩ := List.mem_map.mp hj
              refine List.mem_map.mpr ⟨m, ?_, rfl⟩
              have : D.str m ∈ dedup (ms.map D.str) := dedup_mem.mpr (List.mem_map.mpr ⟨m, hm, rfl⟩)
              rw [ed] at this
              obtain ⟨j, hj, e⟩ := List.mem_map.mp this
              cases e; exact hj
            · intro h
              obtain ⟨m, hm, rfl⟩ := List.mem_map.mp h
              have : D.str m ∈ dedup (ms.map D.str) := by rw [ed]; exact List.mem_map.mpr ⟨m, hm, rfl⟩
              obtain ⟨j, hj, e⟩ := List.mem_map.mp (dedup_mem.mp this)
              cases e
              exact List.mem_map.mpr ⟨_, List.mem_map.mpr ⟨m, hj, rfl⟩, rfl⟩
          have pm : (bs.mergeSort (PySem.W.dataLe false fun i => PyData.str i)).Perm (ss.map st) := (List.mergeSort_perm _ _).trans ((List.perm_ext_iff_of_nodup nd nn').mpr mm)
          have pm2 := pm.map fun x : Str => x.cps.toList
          have id2 : (ss.map st).map (fun x : Str => x.cps.toList) = ss := by
            rw [List.map_map]
            exact (List.map_congr_left fun x _ => by simp [st]).trans (List.map_id _)
          rw [id2] at pm2
          have es := sortS_unique pm2 (le_strs bs)
          have es2 : bs.mergeSort (PySem.W.dataLe false fun i => PyData.str i) = (sortS ss).map st := by
            rw [← es, List.map_map]
            refine (List.map_id _).symm.trans (List.map_congr_left fun x _ => ?_)
            simp [st]
          show Q _ _
          rw [es2]
          exact q _ _ (grow2 hb hp) (fun _ => ⟨p, rfl, none2 hp⟩) ⟨p, _, rfl, upd_same, reps_strs (sortS ss)⟩
      · cases ho
    · cases ho
theorem sn_sset {a : Expr} {ea : E} {p p2 pos pos2 : Pos} (hc : X.calm = true) (hu : X.A.units + 8 < cLine) (hg : Gl X "sorted") (hm : X.mg "sorted" = none) (hg2 : Gl X "set") (hm2 : X.mg "set" = none) (ha : Sn X C a ea)
    (he : starEach [a] X.env = (false, eval a X.env) :: starEach [] X.env := by rfl) (he2 : starEach [.Call (.Name "set" p2) [a] [] pos2] X.env = (false, eval (.Call (.Name "set" p2) [a] [] pos2) X.env) :: starEach [] X.env := by rfl) :
    Sn X C (.Call (.Name "sorted" p) [.Call (.Name "set" p2) [a] [] pos2] [] pos) (.op .sset (.cons ea .nil)) := by
  have h1 := pe_callTy (X := X) (pos := pos2) (p := p2) (x := "set") (T := "set") (cr_setOfK hc) hg2 hm2 (by decide +kernel) (pa_cons ha.p pa_nil he) (by decide) (by decide) he rfl
  have h2 := pe_callB (X := X) (pos := pos) (p := p) (x := "sorted") (id := "sorted") (callr_or (cr_sortedKI hc hu) (cr_sortedKS hc hu)) hg hm (by decide +kernel) (pa_cons h1 pa_nil he2) (by decide) (by decide) he2 rfl
  refine .of (pe_weak h2 fun σ H Q q => ?_) fun i => by simp
  refine tP_mono (tPs_cons (op_post rfl q)) fun v H1 h => ?_
  obtain ⟨ds, r, hq, ho, q⟩ := tPs_nil h
  obtain ⟨d, rfl, h1⟩ := qs1 hq
  simp only [opD] at ho
  unfold o_sset at ho
  split at ho
  · rename_i l hh
    cases hh
    split at ho
    · rename_i hz
      obtain ⟨a, vs, e1, e2, e3⟩ := h1.lst
      exact sset_post ⟨a, vs, e1, .inl (.inl e2), e3⟩ hz ho q
    · cases ho
  · rename_i l hh
    cases hh
    split at ho
    · rename_i hz
      obtain ⟨a, vs, e1, e2, e3⟩ := h1.tup
      exact sset_post ⟨a, vs, e1, .inr e2.sq, e3⟩ hz ho q
    · cases ho
  · cases ho
end
end Pv
end
section
/-! PvZ: t.index(k), tuple(range(n)). -/
namespace Pv
open PySem PySem.Spec PyProof.Rows L2 RZ
section
variable {X : Cx} {C : Ctx} {a b : Expr} {ea eb : E} {pos : Pos}
theorem kind_tupP {K : PySem.W.Frag} {H : Hp} {v : V} (h : ∃ d, RepQ K H d v ∧ kind d = 4) : ∃ p vs, v = .ref p ∧ PlT K H p vs := by
  obtain ⟨d, r, k⟩ := h
  cases d <;> try (cases k)
  obtain ⟨p, vs, e, s, _⟩ := r.tup
  exact ⟨p, vs, e, s⟩
theorem sn_index {apos cpos : Pos} (ha : Sn X C a ea) (hb : Sn X C b eb) (m : M1 X a "index" apos b cpos) : Sn X C (.Call (.Attribute a "index" apos) [b] [] cpos) (.op .index (.cons ea (.cons eb .nil))) := by
  refine .of (pe_weak (pe_tidx ha.p hb.p m) fun σ H Q q => ?_) fun i => by simp
  obtain ⟨ds, r, ho, q⟩ := op_postK rfl q
  simp only [opD] at ho
  unfold o_index at ho
  split at ho
  · rename_i l k
    refine tP_mono (tPsK1 q) fun v H1 h => ?_
    obtain ⟨p, vs, rfl, hp⟩ := kind_tupP h.1
    refine ⟨p, vs, rfl, hp, tP_mono (tPsK1 h.2) fun w H2 h2 => ?_⟩
    obtain ⟨ds, r, hq, ho, q⟩ := h2.2
    obtain ⟨d, e, rfl, h1, h3⟩ := qs2 hq
    simp only [opD] at ho
    unfold o_index at ho
    split at ho
    · rename_i l2 k2 hh
      cases hh
      cases e1 : toInts l2 with
      | none => rw [e1] at ho; cases ho
      | some ns =>
        rw [e1] at ho
        simp only [Option.bind_some] at ho
        split at ho
        · rename_i hk
          cases ho
          obtain ⟨a, vs2, ea, s1, r1⟩ := h1.tup
          cases ea
          cases h3.int
          have q1 := s1.sq
          rw [toInts_repT e1 r1] at q1
          exact ⟨ns, k2, rfl, q1, hk, flatR q rfl rfl⟩
        · cases ho
    · cases ho
  · cases ho
/-! tuple(range(n)) -/
def tTupRgP (te : L2.St → Hp → (Int → Int → Hp → Prop) → Prop) : TE := fun σ H Q => te σ H fun a b H1 => RgOk a b ∧ ∀ q o, H1 q = none → o.dict = none → Q (.ref q) (upd H1 q (.frz o (.tup (rgV a b))))
theorem pe_tupRgP {e : Expr} {te : L2.St → Hp → (Int → Int → Hp → Prop) → Prop} {p pos : Pos} (hc : X.calm = true) (hg : Gl X "tuple") (hm : X.mg "tuple" = none) (he : PRg X e te) (na : starEach [e] X.env = (false, eval e X.env) :: starEach [] X.env := by rfl) : PE X (.Call (.Name "tuple" p) [e] [] pos) (tTupRgP te) := by
  refine ⟨fun pins s σ H Q I h => ?_⟩
  refine Call_ (ld_blt I hg hm boot_tuple (PyProof.Rows.callWith_type1 (args_cons (thn (he pins s σ H _ I h) fun x s1 ⟨r, a, b, t, u, v, H1, ex, hr, I1, ok, q⟩ => args_nil ?_) na) na))
  subst ex
  obtain ⟨b1, b2, b3, b4, b5⟩ := ok
  refine call_tuple_range (n := (b - a).toNat) (I1.ok.hd hc) hr (small_one b1 b2 b3 b4) (rangeSize_nat a b) b5 fun h' tk acc hk hi => ?_
  have I2 : Inv X pins σ H1 { s1 with heap := h', toks := tk } := I1.kept hk
  have ez : (rgV a b).length ≤ sizeLine := by rw [rgV_length, sizeLine_eq]; omega
  have hv := vals_rg hi
  have eo : ({ cls := .type "tuple", data := .seq acc } : Obj) = tupO acc.toList.toArray := by simp [tupO]
  rw [eo]
  exact ⟨.ref h'.objs.size, upd H1 h'.objs.size (.frz (tupO acc.toList.toArray) (.tup (rgV a b))), I2.laid (t' := tk) (fun c o e => Heap.get?_push_of_some _ e) (Nat.le_refl _) (tupO_ok ez hv), rfl, q _ _ (I2.hok.fresh (Nat.le_refl _)) rfl⟩
theorem reps_rg {K : PySem.W.Frag} {H : Hp} (i : Int) : Reps K H (rangeD 0 i) (rgV 0 i) := by
  unfold rangeD rgV
  induction List.range (i - 0).toNat with
  | nil => exact rfl
  | cons n l ih => exact ⟨_, _, rfl, rfl, ih⟩
theorem sn_tupRange {p p2 pos2 : Pos} (hc : X.calm = true) (hg : Gl X "tuple") (hm : X.mg "tuple" = none) (hg2 : Gl X "range") (hm2 : X.mg "range" = none) (ha : Sn X C a ea) (na : starEach [a] X.env = (false, eval a X.env) :: starEach [] X.env := by rfl)
    (na2 : starEach [.Call (.Name "range" p2) [a] [] pos2] X.env = (false, eval (.Call (.Name "range" p2) [a] [] pos2) X.env) :: starEach [] X.env := by rfl) :
    Sn X C (.Call (.Name "tuple" p) [.Call (.Name "range" p2) [a] [] pos2] [] pos) (.op .tupRange (.cons ea .nil)) := by
  refine .of (pe_weak (pe_tupRgP hc hg hm (prg_1 hg2 hm2 ha.p na) na2) fun σ H Q q => ?_) fun i => by simp
  refine tP_mono (tPs_cons (op_post rfl q)) fun v H1 h => ?_
  obtain ⟨ds, r, hq, ho, q⟩ := tPs_nil h
  obtain ⟨d, rfl, h1⟩ := qs1 hq
  cases d <;> simp only [opD, o_tupRange] at ho <;> try cases ho
  rename_i i
  split at ho
  · rename_i hi
    cases ho
    simp only [Bool.and_eq_true, decide_eq_true_eq] at hi
    cases h1.int
    exact ⟨i, rfl, RgOk.of_le (by omega) hi.2 (by omega) hi.1, fun p o np hd => newT q (reps_rg i) hd np⟩
  · cases ho
end
end Pv
end
section
/-! PvO: dicts made of pairs. -/
namespace Pv
open PySem PySem.Spec PyProof.Rows L2 RZ

section
variable {K : PySem.W.Frag} {H : Hp}
/-- pairs, keys and values -/
def RepKV (K : PySem.W.Frag) (H : Hp) : List (D × D) → List (Key × V) → Prop
  | [], kvs => kvs = []
  | (k, d) :: l, kvs => ∃ q v r, kvs = (q, v) :: r ∧ keyD q = k ∧ Rep K H d v ∧ RepKV K H l r
theorem repP_mputs : ∀ {ps : List (D × D)} {kvs : List (Key × V)} {acc : List (D × D)} {ks : List (Key × V)}, RepKV K H ps kvs → RepP K H acc (ks.map fun p => (keyD p.1, p.2)) →
    RepP K H (ps.foldl (fun m p => mput m p.1 p.2) acc) ((mergeK ks kvs).map fun p => (keyD p.1, p.2))
  | [], _, acc, ks, h, r => by rw [show _ = [] from h]; exact r
  | (k, d) :: ps, _, acc, ks, h, r => by
    obtain ⟨q, v, kvs, rfl, rfl, hd, h2⟩ := h
    have := repP_mputs (acc := mput acc (keyD q) d) (ks := putK ks q v) h2 (repP_put hd r)
    exact this
theorem pairs_rep : ∀ {l : List D} {ps : List (D × D)} {vs : List V}, Reps K H l vs → pairsOf l = some ps → (ps.all fun p => keyOk p.1) = true →
    ∃ (as : List Addr) (kvs : List (Key × V)), vs = as.map V.ref ∧ Paired (fun p kv => SqT K H p [kV kv.1, kv.2]) as kvs ∧ RepKV K H ps kvs
  | [], ps, vs, r, e, _ => by
    cases e
    rw [show vs = [] from r]
    exact ⟨[], [], rfl, .nil, rfl⟩
  | d :: l, ps, vs, r, e, hk => by
    unfold pairsOf at e
    split at e
    · rename_i hh; cases hh
    · rename_i a b r' hh
      cases hh
      cases e1 : pairsOf l with
      | none => rw [e1] at e; cases e
      | some ps' =>
        rw [e1] at e
        cases e
        rw [List.all_cons, Bool.and_eq_true] at hk
        obtain ⟨v, w, rfl, ⟨t, us, rfl, ht, hu⟩, h2⟩ := r
        obtain ⟨x, u1, rfl, hx, y, u2, rfl, hy, e3⟩ := hu
        cases (show u2 = [] from e3)
        obtain ⟨q, eq, rfl⟩ := keyD_kV hk.1 hx.q
        obtain ⟨as, kvs, e4, p4, r4⟩ := pairs_rep h2 e1 hk.2
        exact ⟨t :: as, (q, y) :: kvs, by rw [e4]; rfl, .cons ht.sq p4, q, y, kvs, rfl, eq, hy, r4⟩
    · cases e
end
section
variable {X : Cx} {C : Ctx}
theorem Inv.plainT {pins : List (Addr × Obj)} {σ : L2.St} {H : Hp} {s : Shared} {a : Addr} {xs : List V} (I : Inv X pins σ H s) (h : PlT X.K H a xs) : ∃ its : List Value, Vals xs its ∧ PlainSeq "tuple" s.heap a its.toArray ∧ xs.length ≤ sizeLine := by
  rcases h with ⟨o, h, d⟩ | ⟨o, its, n, hk, hc, hd, hs, hz, r⟩
  · obtain ⟨e, z, its, r, ⟨o', e', c, n, dt⟩⟩ := I.hok a _ h
    rw [e] at e'
    cases e'
    exact ⟨its, r, ⟨o, n, e, c, d, dt⟩, z⟩
  · refine ⟨its.toList, r, ⟨o, n, I.kIn a o hk, hc, hd, by simpa using hs⟩, ?_⟩
    have e := r.length
    simp only [Array.length_toList] at e
    omega
theorem pairs_at {pins : List (Addr × Obj)} {σ : L2.St} {H : Hp} {s : Shared} (I : Inv X pins σ H s) : ∀ {ps : List Addr} {kvs : List (Key × V)}, Paired (fun p kv => SqT X.K H p [kV kv.1, kv.2]) ps kvs →
    ∃ (prs : List (Key × Value)) (uvs : List (Value × Value)), KV kvs prs ∧ prs.length = ps.length ∧ uvs.length = ps.length ∧
      ∀ (j : Nat) (u y : Value), uvs[j]? = some (u, y) → ∃ b k, ps[j]? = some b ∧ PairAt s.heap b u y ∧ prs[j]? = some (k, y) ∧ keyIs k u = true
  | _, _, .nil => ⟨[], [], .nil, rfl, rfl, fun j u y e => by simp at e⟩
  | _, _, .cons (a := p) (b := kv) h t => by
    obtain ⟨prs, uvs, r, hl, hl2, hp⟩ := pairs_at I t
    obtain ⟨its, rv, ht, _⟩ := I.tuple h
    obtain ⟨u, y, ei, ru, ry⟩ := vals2 rv
    subst ei
    refine ⟨(kv.1, y) :: prs, (u, y) :: uvs, .cons ⟨rfl, ry⟩ r, by rw [List.length_cons, List.length_cons, hl], by rw [List.length_cons, List.length_cons, hl2], fun j u' y' e => ?_⟩
    cases j with
    | zero =>
      have e' : (u, y) = (u', y') := Option.some.inj e
      cases e'
      exact ⟨p, kv.1, rfl, .inl ht, rfl, kV_is (P := X.prog) (w := X.w) ru⟩
    | succ j =>
      obtain ⟨b, k, e1, e2, e3, e4⟩ := hp j u' y' (by simpa using e)
      exact ⟨b, k, by simpa using e1, e2, by simpa using e3, e4⟩
/-- dict(t) of a tuple of pairs -/
theorem call_dictTP (hcalm : X.calm = true) : CallR X (.type "dict") (fun xs H Q => ∃ (a : Addr) (ps : List Addr) (kvs : List (Key × V)), xs = [.ref a] ∧ PlT X.K H a (ps.map V.ref) ∧ Paired (fun p kv => SqT X.K H p [kV kv.1, kv.2]) ps kvs ∧
    ∀ p, H p = none → Q (.ref p) (upd H p (.dK (mergeK [] kvs)))) := by
  intro pins s σ H xs us Q I r q
  obtain ⟨a, ps, kvs, ex, hq, hp, q⟩ := q
  subst ex
  rw [Vals.ref1 r]
  obtain ⟨its, rv, pl, hz⟩ := Inv.plainT I hq
  have ei := refs_at rv
  subst ei
  rw [List.length_map] at hz
  obtain ⟨prs, uvs, rel, hl, hl2, hpr⟩ := pairs_at I hp
  refine PySem.call_dict_pairs (knd := mixKind X.prog X.w) (kvs := prs) (PairArg.tuple (prog := X.prog) (w := X.w) a (ps.map Value.ref).toArray (fun j => ps.getD j 0) uvs) (I.ok.hd hcalm) ⟨pl, ?_⟩ ⟨by rw [hl, hl2], fun i key v e => ?_⟩ (by rw [hl2]; exact hz) fun h' tk hd' k => ?_
  · refine ⟨by simp [hl2], fun j k v e => ?_⟩
    obtain ⟨b, q', e1, e2, _⟩ := hpr j k v e
    have eb : ps.getD j 0 = b := by rw [List.getD_eq_getElem?_getD, e1]; rfl
    show (ps.map Value.ref).toArray[j]? = some (.ref (ps.getD j 0)) ∧ PairAt s.heap (ps.getD j 0) k v
    rw [eb]
    exact ⟨by simp [e1], e2⟩
  · obtain ⟨b, q', e1, e2, e3, e4⟩ := hpr i key v e
    exact ⟨q', e3, e4⟩
  · have hm : (s.heap.objs.size == sysModules) = false := beq_eq_false_iff_ne.mpr (Nat.ne_of_gt I.big)
    have hlen : (mergeK [] kvs).length ≤ sizeLine := by
      refine Nat.le_trans (length_mergeK kvs []) ?_
      rw [List.length_nil, Nat.zero_add, rel.length, hl]
      exact hz
    exact ⟨.ref s.heap.objs.size, upd H s.heap.objs.size (.dK (mergeK [] kvs)), I.laid (t' := tk) (fun b o e => k b o (by simp) e) (Nat.le_refl _) (show ObjOk X.prog X.w _ _ _ (.dK (mergeK [] kvs)) from ⟨hlen, hm, merged [] prs, KV.merge rel .nil, hd'⟩), rfl, q _ (I.hok.fresh (Nat.le_refl _))⟩
theorem cb_dict (hc : X.calm = true) : Cb X (.type "dict") .dictOf := by
  refine cb1 (callr_or (call_dictP hc) (callr_or (call_dictTP hc) call_dictD)) (fun ds x h => one_of (o := o_dictOf) h rfl fun a b r => by cases a <;> rfl) fun d x v H Q ho h q => ?_
  cases d <;> simp only [opD, o_dictOf] at ho <;> try (cases ho)
  · obtain ⟨a, vs, rfl, s1, r1⟩ := h.tup
    rename_i l
    cases e : pairsOf l with
    | none => rw [e] at ho; cases ho
    | some ps =>
      rw [e] at ho
      simp only [Option.bind_some] at ho
      split at ho
      · rename_i hk
        cases ho
        obtain ⟨as, kvs, rfl, p4, r4⟩ := pairs_rep r1 e hk
        exact .inr (.inl ⟨a, as, kvs, rfl, s1, p4, fun p np => newM q ⟨_, rfl, rfl⟩ (repP_mputs r4 (ks := []) rfl) np⟩)
      · cases ho
  · obtain ⟨a, vs, rfl, s1, r1⟩ := h.lst
    rename_i l
    cases e : pairsOf l with
    | none => rw [e] at ho; cases ho
    | some ps =>
      rw [e] at ho
      simp only [Option.bind_some] at ho
      split at ho
      · rename_i hk
        cases ho
        obtain ⟨as, kvs, rfl, p4, r4⟩ := pairs_rep r1 e hk
        exact .inl ⟨a, as, kvs, rfl, .inl s1, p4, fun p np => newM q ⟨_, rfl, rfl⟩ (repP_mputs r4 (ks := []) rfl) np⟩
      · cases ho
  · obtain ⟨a, u, kvs, rfl, s1, o1, r1⟩ := h.dic
    obtain ⟨ks, rfl, rfl⟩ := dk_of o1
    exact .inr (.inr ⟨a, ks, rfl, s1, fun p np => newM q ⟨ks, rfl, rfl⟩ r1 np⟩)

/-! ### displays -/
/-- the pairs of a display -/
def flat2 : List (V × V) → List V
  | [] => []
  | (x, y) :: r => x :: y :: flat2 r
def unflat : List V → List (V × V)
  | x :: y :: r => (x, y) :: unflat r
  | _ => []
theorem unflat_flat : ∀ ps : List (V × V), unflat (flat2 ps) = ps
  | [] => rfl
  | (x, y) :: r => by simp only [flat2, unflat, unflat_flat r]
structure SnP (X : Cx) (C : Ctx) (keys : List (Option Expr)) (vals : List Expr) (es : Es) : Prop where
  t : ∃ trs, (∀ pos, PPs X pos keys vals trs) ∧ ∀ σ H Q, tDs X.K (evDs C es) σ H Q → tPairs trs σ H fun ps H2 => Q (flat2 ps) H2
theorem snP_nil : SnP X C [] [] .nil := ⟨[], fun _ => pps_nil, fun σ H Q q => tDs_nil q⟩
theorem snP_cons {k v : Expr} {ks : List (Option Expr)} {vs : List Expr} {ek e : E} {es : Es} (hk : Sn X C k ek) (hv : Sn X C v e) (h : SnP X C ks vs es) : SnP X C (some k :: ks) (v :: vs) (.cons ek (.cons e es)) := by
  obtain ⟨trs, h1, h2⟩ := h.t
  exact ⟨_, fun pos => pps_cons hk.d hv.d (h1 pos), fun σ H Q q => tD_mono (tDs_cons q) fun x H1 q => tD_mono (tDs_cons q) fun y H2 q => h2 σ H2 _ q⟩
theorem pairUp_rep {K : PySem.W.Frag} {H : Hp} : ∀ {ds : List D} {vs : List V} {prs : List (D × D)}, Reps K H ds vs → pairUp ds = some prs → (prs.all fun p => keyOk p.1) = true →
    ∃ kvs : List (Key × V), unflat vs = kvs.map (fun kv => (kV kv.1, kv.2)) ∧ RepKV K H prs kvs ∧ kvs.length = prs.length
  | [], vs, prs, r, e, hk => by
    cases e
    rw [show vs = [] from r]
    exact ⟨[], rfl, rfl, rfl⟩
  | [d], vs, prs, r, e, hk => by cases e
  | a :: b :: ds, vs, prs, r, e, hk => by
    obtain ⟨x, w1, rfl, hx, y, w2, rfl, hy, r⟩ := r
    simp only [pairUp] at e
    cases e3 : pairUp ds with
    | none => rw [e3] at e; cases e
    | some prs' =>
      rw [e3] at e
      cases e
      rw [List.all_cons, Bool.and_eq_true] at hk
      obtain ⟨q, eq, rfl⟩ := keyD_kV hk.1 hx.q
      obtain ⟨kvs, e4, r4, l4⟩ := pairUp_rep r e3 hk.2
      exact ⟨(q, y) :: kvs, by simp only [unflat, e4, List.map_cons], ⟨q, y, kvs, rfl, eq, hy, r4⟩, by rw [List.length_cons, List.length_cons, l4]⟩
theorem sn_dic {keys : List (Option Expr)} {vals : List Expr} {es : Es} {pos : Pos} (h : SnP X C keys vals es) (hall : keys.all (·.isSome) = true) (hl : keys.length = vals.length) (h0 : keys ≠ []) (h15 : keys.length ≤ 15) : Sn X C (.Dict keys vals pos) (.op .dic es) := by
  obtain ⟨trs, h1, h2⟩ := h.t
  refine .of (pe_weak (pe_disp (h1 pos) hall hl h0 h15) fun σ H Q q => ?_) fun i => by simp
  intro p np
  obtain ⟨σd, rel, q⟩ := q
  simp only [ev, Op.keeps, if_true] at q
  have hh := h2 σ (upd H p (.dK [])) (fun vs H2 => H2 p = some (.dK []) ∧ ∃ kvs : List (Key × V), unflat vs = kvs.map (fun kv => (kV kv.1, kv.2)) ∧ kvs.length ≤ 15 ∧ Q (.ref p) (upd H2 p (.dK (mergeK [] kvs)))) ?_
  · simp only [unflat_flat] at hh
    exact hh
  · refine ⟨σd, rel.keep (fun a u h => by rw [upd_ne (ne_of_none h np)]; exact h), ?_⟩
    cases e1 : evDs C es σd with
    | no => rw [e1] at q; exact q
    | ok ds σ1 =>
      rw [e1] at q
      simp only [Out.bind, opD, o_dic] at q
      intro vs H2 rel2 x2 rv
      have no : ¬ Own σd σ p := fun o => by obtain ⟨u, hu, _⟩ := rel.own o; rw [np] at hu; cases hu
      have hp : H2 p = some (.dK []) := x2.1 p _ upd_same no
      refine ⟨hp, ?_⟩
      cases e2 : pairUp ds with
      | none => rw [e2] at q; exact q.elim
      | some prs =>
        rw [e2] at q
        simp only [Option.bind_some] at q
        by_cases hc : (prs.all (fun p => keyOk p.1) && decide (prs.length ≤ 15)) = true
        · rw [if_pos hc] at q
          rw [Bool.and_eq_true, decide_eq_true_eq] at hc
          obtain ⟨kvs, e4, r4, l4⟩ := pairUp_rep rv e2 hc.1
          refine ⟨kvs, e4, by omega, ?_⟩
          have no1 : ¬ Own σ1 σ p := fun o => by
            rcases x2.2 p o with z | z
            · exact no z
            · rw [upd_same] at z; cases z
          have m : Mono H2 (upd H2 p (.dK (mergeK [] kvs))) := mono_upd hp trivial
          refine q _ _ (rel2.updOut hp trivial no1) ⟨fun a u h n => ?_, fun a h => ?_⟩ ⟨p, _, _, rfl, upd_same, ⟨_, rfl, rfl⟩, RepP.mono m _ _ (repP_mputs r4 (ks := []) rfl)⟩ fun a _ e => by cases e; exact no1
          · rw [upd_ne (ne_of_none h np)]
            exact x2.1 a u (by rw [upd_ne (ne_of_none h np)]; exact h) n
          · rcases h with h | ⟨_, h⟩
            · rcases x2.2 a h with z | z
              · exact .inl z
              · by_cases e : a = p
                · rw [e]; exact .inr np
                · rw [upd_ne e] at z; exact .inr z
            · cases h; exact .inr np
        · rw [if_neg hc] at q; exact q.elim
end
end Pv
end
section
/-! PvP: defs. -/
namespace Pv
open PySem PySem.Spec PyProof.Rows L2 RZ

/-- a name of the module that never changes -/
def Kc (X : Cx) (x : Str) (d : D) : Prop := ∃ v u, X.mg x = some u ∧ RelV v u ∧ ∀ H, Rep X.K H d v
theorem sn_k {X : Cx} {C : Ctx} {x : Str} {d : D} {pos : Pos} (h : Kc X x d) (hg : Gl X x) (hn : (x == ("__debug__" : Str)) = false := by decide) : Sn X C (.Name x pos) (.c d) := by
  obtain ⟨v, u, hm, r, rp⟩ := h
  exact sn_c (pe_glob hg hm r hn) rp
/-- what a def's body leans on: the defs below, the names of the module -/
structure Pk (X : Cx) (C : Ctx) (k : Nat) (tb : List (Str × Nat)) (bs : List Str) (cs : List (Str × D)) : Prop where
  calm : X.calm = true
  room : Room k X.A
  nd : X.N.Nodup
  wh : C.wh = whileW
  cl : ∀ f x n, tb[f]? = some (x, n) → Cl X C k x f n
  bi : ∀ (i : Nat) x, bs[i]? = some x → X.mg x = none
  ks : ∀ (i : Nat) x d, cs[i]? = some (x, d) → Kc X x d
theorem Pk.blk {X : Cx} {C : Ctx} {k : Nat} {tb : List (Str × Nat)} {bs : List Str} {cs : List (Str × D)} (P : Pk X C k tb bs cs) (s : Shared) (H : Hp) (sc : Scope) (env : PySem.Env) (fp : List Addr) : Pk (X.blk s H sc env fp) C k tb bs cs :=
  ⟨P.calm, P.room, P.nd, P.wh, fun f x n h => let c := P.cl f x n h; ⟨c.fn, c.ar⟩, P.bi, P.ks⟩
theorem Pk.u {X : Cx} {C : Ctx} {k : Nat} {tb : List (Str × Nat)} {bs : List Str} {cs : List (Str × D)} (P : Pk X C k tb bs cs) (n : Nat) (h : n ≤ 199) : X.A.units + n < cLine := by
  have := P.room.un
  omega

def ixs (io : List Bool) : List Nat := (List.range io.length).filter fun i => io.getD i false
theorem mem_ixs {io : List Bool} {i : Nat} : i ∈ ixs io ↔ io[i]? = some true := by
  unfold ixs
  rw [List.mem_filter, List.mem_range, List.getD_eq_getElem?_getD]
  constructor
  · rintro ⟨h1, h2⟩
    rw [List.getElem?_eq_getElem h1] at h2 ⊢
    exact congrArg some h2
  · intro h
    exact ⟨(List.getElem?_eq_some_iff.mp h).1, by rw [h]; rfl⟩
theorem ioFits_at : ∀ {io : List Bool} {rs : List R}, ioFits io rs = true → io.length = rs.length ∧ ∀ (i : Nat) (r : R), rs[i]? = some r → io[i]? = some r.own
  | [], [], _ => ⟨rfl, fun i r h => by simp at h⟩
  | [], _ :: _, h => by cases h
  | _ :: _, [], h => by cases h
  | b :: io, r :: rs, h => by
    simp only [ioFits, Bool.and_eq_true, beq_iff_eq] at h
    obtain ⟨h1, h2⟩ := ioFits_at h.2
    refine ⟨by rw [List.length_cons, List.length_cons, h1], fun i s hs => ?_⟩
    cases i with
    | zero => simp at hs; subst hs; simp [h.1]
    | succ i => simpa using h2 i s (by simpa using hs)
theorem backs_at : ∀ {io : List Bool} {σ : Env} {bs : List R} {K : PySem.W.Frag} {H : Hp} {σV : L2.St} {rs : List R} {vs : List V}, backs io σ = some bs → ioFits io rs = true → rs.length = vs.length →
    (∀ i r, io[i]? = some true → get σ i = some r → ∃ v, vs[i]? = some v ∧ RepR K H r v) → RepBs K H rs vs bs
  | [], _, bs, K, H, σV, [], vs, h, _, hl, _ => by
    cases h
    exact rfl
  | [], _, _, _, _, _, _ :: _, _, _, hf, _, _ => by cases hf
  | _ :: _, _, _, _, _, _, [], _, _, hf, _, _ => by cases hf
  | b :: io, σ, bs, K, H, σV, r :: rs, vs, h, hf, hl, hv => by
    simp only [ioFits, Bool.and_eq_true, beq_iff_eq] at hf
    cases vs with
    | nil => cases hl
    | cons v vs =>
      have hl' : rs.length = vs.length := by simpa using hl
      cases b with
      | false =>
        cases σ with
        | nil => cases h
        | cons x σ =>
          have h' : backs io σ = some bs := by cases x <;> exact h
          unfold RepBs
          rw [if_neg (by rw [← hf.1]; decide)]
          exact ⟨v, vs, rfl, backs_at (σV := σV) h' hf.2 hl' fun i r hi hg => by
            have := hv (i + 1) r (by simpa using hi) (by simpa [get] using hg)
            simpa using this⟩
      | true =>
        cases σ with
        | nil => cases h
        | cons x σ =>
          cases x with
          | none => cases h
          | some y =>
            simp only [backs] at h
            split at h
            · rename_i ho
              cases e : backs io σ with
              | none => rw [e] at h; cases h
              | some bs' =>
                rw [e] at h
                cases h
                unfold RepBs
                rw [if_pos hf.1.symm]
                obtain ⟨w, hw, rw'⟩ := hv 0 y rfl rfl
                simp at hw
                subst hw
                exact ⟨v, vs, y, bs', rfl, rfl, ho, rw', backs_at (σV := σV) e hf.2 hl' fun i r hi hg => by
                  have := hv (i + 1) r (by simpa using hi) (by simpa [get] using hg)
                  simpa using this⟩
            · cases h
theorem backs_own : ∀ {io : List Bool} {σ : Env} {bs : List R}, backs io σ = some bs → ∀ i, io[i]? = some true → ∃ r, get σ i = some r ∧ r.own = true
  | [], _, _, _, i, hi => by simp at hi
  | false :: io, σ, bs, h, i, hi => by
    cases σ with
    | nil => cases h
    | cons x σ =>
      have h' : backs io σ = some bs := by cases x <;> exact h
      cases i with
      | zero => simp at hi
      | succ i =>
        obtain ⟨r, h1, h2⟩ := backs_own h' i (by simpa using hi)
        exact ⟨r, by simpa [get] using h1, h2⟩
  | true :: io, σ, bs, h, i, hi => by
    cases σ with
    | nil => cases h
    | cons x σ =>
      cases x with
      | none => cases h
      | some y =>
        simp only [backs] at h
        split at h
        · rename_i ho
          cases e : backs io σ with
          | none => rw [e] at h; cases h
          | some bs' =>
            cases i with
            | zero => exact ⟨y, rfl, ho⟩
            | succ i =>
              obtain ⟨r, h1, h2⟩ := backs_own e i (by simpa using hi)
              exact ⟨r, by simpa [get] using h1, h2⟩
        · cases h
theorem repRs_get {K : PySem.W.Frag} {H : Hp} : ∀ {rs : List R} {vs : List V} {i : Nat} {r : R}, RepRs K H rs vs → rs[i]? = some r → ∃ v, vs[i]? = some v ∧ RepR K H r v
  | [], _, i, r, _, h => by simp at h
  | r :: rs, _, 0, r', h, e => by
    obtain ⟨v, w, rfl, h1, _⟩ := h
    simp at e
    subst e
    exact ⟨v, rfl, h1⟩
  | r :: rs, _, i + 1, r', h, e => by
    obtain ⟨v, w, rfl, _, h2⟩ := h
    obtain ⟨x, h3, h4⟩ := repRs_get h2 (i := i) (by simpa using e)
    exact ⟨x, by simpa using h3, h4⟩
/-- the slots at a def's entry -/
def env0 (rs : List R) (n : Nat) : Env := rs.map some ++ List.replicate n none
theorem get_env0 {rs : List R} {n i : Nat} {r : R} (h : get (env0 rs n) i = some r) : rs[i]? = some r := by
  unfold get env0 at h
  by_cases hi : i < rs.length
  · rw [List.getElem?_append_left (by simpa using hi), List.getElem?_map, List.getElem?_eq_getElem hi] at h
    rw [List.getElem?_eq_getElem hi]
    exact h
  · rw [List.getElem?_append_right (by simpa using hi)] at h
    exfalso
    rw [List.getElem?_replicate] at h
    split at h <;> cases h
theorem get_env0' {rs : List R} {n i : Nat} {r : R} (h : rs[i]? = some r) : get (env0 rs n) i = some r := by
  have hi := (List.getElem?_eq_some_iff.mp h).1
  unfold get env0
  rw [List.getElem?_append_left (by simpa using hi), List.getElem?_map, h]
  rfl
theorem start_at {N : List Str} {vs : List V} {i : Nat} {v : V} (h : vs[i]? = some v) : (L2.start N vs)[i]? = some (some v) := by
  have hi := (List.getElem?_eq_some_iff.mp h).1
  unfold L2.start
  rw [List.getElem?_append_left (by simpa using hi), List.getElem?_map, h]
  rfl
theorem start_at' {N : List Str} {vs : List V} {i : Nat} {v : V} (h : (L2.start N vs)[i]? = some (some v)) : vs[i]? = some v := by
  unfold L2.start at h
  by_cases hi : i < vs.length
  · rw [List.getElem?_append_left (by simpa using hi), List.getElem?_map, List.getElem?_eq_getElem hi] at h
    rw [List.getElem?_eq_getElem hi]
    exact Option.some.inj h |>.symm ▸ (by cases h; rfl)
  · rw [List.getElem?_append_right (by simpa using hi), List.getElem?_replicate] at h
    split at h <;> cases h
theorem rel_start {K : PySem.W.Frag} {H : Hp} {N : List Str} {rs : List R} {vs : List V} (h : RepRs K H rs vs) (hs : SepA rs vs) (hn : vs.length ≤ N.length) : RelE K H (env0 rs (N.length - rs.length)) (L2.start N vs) := by
  have hl := h.len
  refine ⟨?_, fun i r g => ?_, fun i j r s a ne g1 g2 o1 o2 => ?_⟩
  · unfold env0 L2.start
    simp [hl]
  · obtain ⟨v, h1, h2⟩ := repRs_get h (get_env0 g)
    exact ⟨v, start_at h1, h2⟩
  · intro q1 q2
    exact hs i j r s a ne (get_env0 g1) (get_env0 g2) o1 o2 (start_at' q1) (start_at' q2)
theorem own_start {N : List Str} {rs : List R} {vs : List V} {n : Nat} {a : Addr} : Own (env0 rs n) (L2.start N vs) a ↔ OwnA rs vs a := by
  constructor
  · rintro ⟨i, r, h1, h2, h3⟩
    exact ⟨i, r, get_env0 h1, h2, start_at' h3⟩
  · rintro ⟨i, r, h1, h2, h3⟩
    exact ⟨i, r, get_env0' h1, h2, start_at h3⟩
/-- a body's landing, read as the call's end -/
theorem land {K : PySem.W.Frag} {H H' : Hp} {N : List Str} {rs : List R} {vs : List V} {io : List Bool} {σ1 : Env} {σ' : L2.St} {r : R} {v : V} {bs : List R} {Q : VK} (hf : ioFits io rs = true) (h : RepRs K H rs vs)
    (hb : backs io σ1 = some bs) (rel : RelE K H' σ1 σ') (x : Ext (Own (env0 rs (N.length - rs.length)) (L2.start N vs)) (fun a => Own σ1 σ' a ∨ (r.own = true ∧ v = .ref a)) H H') (k : Keep (ixs io) (L2.start N vs) σ') (rv : RepR K H' r v) (n : ∀ a, r.own = true → v = .ref a → ¬ Own σ1 σ' a)
    (q : PostC K H rs vs (.ok r bs) Q) : Q v H' := by
  obtain ⟨f1, f2⟩ := ioFits_at hf
  refine q v H' (fun p u e no => x.1 p u e fun z => no (own_start.mp z)) rv ?_ fun o => ?_
  · refine backs_at (σV := σ') hb hf h.len fun i s hi g => ?_
    obtain ⟨w, h1, h2⟩ := rel.at_ i s g
    rw [k i (mem_ixs.mpr hi)] at h1
    exact ⟨w, start_at' h1, h2⟩
  · obtain ⟨a, u, ev, hu, _⟩ := rv.at o
    refine ⟨a, ev, (x.2 a (.inr ⟨o, ev⟩)).resolve_left fun z => ?_⟩
    obtain ⟨i, s, h1, h2, h3⟩ := own_start.mp z
    have hi : io[i]? = some true := by rw [f2 i s h1, h2]
    obtain ⟨b, g, ob⟩ := backs_own hb i hi
    exact n a o ev ⟨i, b, g, ob, by rw [k i (mem_ixs.mpr hi)]; exact start_at h3⟩
section
variable {P : Program} {w : World} {K : PySem.W.Frag} {mg : Str → Option Value} {base : Heap}
/-- THE RULE: a def does what the evaluator does -/
theorem fn_ok {x qual : Str} {st : Stmt} {fa : Addr} {fd : FuncData} {N ps : List Str} {k f : Nat} {tbl : Nat → Option Fn} {fn : Fn} (F : Fun K x qual st fa fd) (S : FnScope N ps (defScope st)) (ht : tbl f = some fn) (hns : fn.ns = N.length) (hnp : fn.np = ps.length) (hio : fn.io.length = ps.length)
    (hb : ∀ (cdv : Value) (A : Around) (outer : List PySem.Env) (s : Shared) (H : Hp) (E : XK), Room k (A.deeper (envOfC qual (defScope st) s.heap.objs.size fa cdv)) →
      SnB (cxOf CX0 P w K mg base N qual (defScope st) fa cdv A outer s H E).nox ⟨whileW, callF whileW tbl k, fun f => ((tbl f).map (·.io)).getD []⟩ (ixs fn.io) (defBody st) fn.body) :
    FnOk P w K mg base CX0 (k + 1) fa fd ps (spD K (callF whileW tbl (k + 1)) ps.length f) := by
  have hpl : ps.length ≤ N.length := by have := congrArg List.length S.pre; rw [List.length_take] at this; omega
  refine F.ok S (fun vs H Q E h => ?_) (fun cdv A outer s H vs Q E hr h => ?_)
  · obtain ⟨rs, h1, h2, _⟩ := h
    rw [← h2.len, h1]
  · obtain ⟨rs, h1, h2, h3, q⟩ := h
    refine ⟨_, (hb cdv A outer s H E hr).p, env0 rs (N.length - rs.length), rel_start h2 h3 (by rw [← h2.len, h1]; exact hpl), ?_⟩
    have e0 : callF whileW tbl (k + 1) f rs = if ioFits fn.io rs then
        (match evSs ⟨whileW, callF whileW tbl k, fun f => ((tbl f).map (·.io)).getD []⟩ fn.body (rs.map some ++ List.replicate (fn.ns - fn.np) none) with
        | .ret r σ => (match backs fn.io σ with | some bs => .ok r bs | none => .no)
        | .next σ => (match backs fn.io σ with | some bs => .ok (.v .non) bs | none => .no)
        | _ => .no)
      else .no := by
      rw [callF, ht] <;> rfl
    rw [e0] at q
    by_cases hf : ioFits fn.io rs = true
    · rw [if_pos hf] at q
      have en : rs.map some ++ List.replicate (fn.ns - fn.np) none = env0 rs (N.length - rs.length) := by unfold env0; rw [hns, hnp, h1]
      rw [en] at q
      cases e1 : evSs ⟨whileW, callF whileW tbl k, fun f => ((tbl f).map (·.io)).getD []⟩ fn.body (env0 rs (N.length - rs.length)) with
      | ret r σ1 =>
        rw [e1] at q
        simp only at q
        cases e2 : backs fn.io σ1 with
        | none => rw [e2] at q; exact q.elim
        | some bs =>
          rw [e2] at q
          exact fun v σ' H' rel x kp rv n => land hf h2 e2 rel x kp rv n q
      | next σ1 =>
        rw [e1] at q
        simp only at q
        cases e2 : backs fn.io σ1 with
        | none => rw [e2] at q; exact q.elim
        | some bs =>
          rw [e2] at q
          exact fun σ' H' rel x kp => land (r := .v .non) (v := .non) hf h2 e2 rel (x.sub (fun _ h => h) fun _ h => h.resolve_right fun z => by cases z.1) kp rfl (fun _ z => by cases z) q
      | brk σ1 => rw [e1] at q; exact q.elim
      | cnt σ1 => rw [e1] at q; exact q.elim
      | no => rw [e1] at q; exact q.elim
    · rw [if_neg hf] at q; exact q.elim
theorem fn_zero {fa : Addr} {fd : FuncData} {ps : List Str} {f : Nat} {tbl : Nat → Option Fn} : FnOk P w K mg base CX0 0 fa fd ps (spD K (callF whileW tbl 0) ps.length f) := by
  refine ⟨fun vs H Q E h => ?_, fun A outer s H args us vs Q E _ _ _ _ h => ?_⟩
  · obtain ⟨rs, h1, h2, _⟩ := h
    rw [← h2.len, h1]
  · obtain ⟨rs, h1, h2, h3, q⟩ := h
    exact q.elim
end
end Pv
end
section
/-! PvQ: the rules, as a program prints them. -/
namespace Pv
open PySem PySem.Spec PyProof.Rows L2 RZ

/-- what the defs of a table are run with -/
noncomputable def mkC (tbl : Nat → Option Fn) (k : Nat) : Ctx := ⟨whileW, callF whileW tbl k, fun f => ((tbl f).map (·.io)).getD []⟩
section
variable {X : Cx} {C : Ctx} {k : Nat} {tb : List (Str × Nat)} {bs : List Str} {cs : List (Str × D)} {a b c : Expr} {ea eb ec : E} {as : List Expr} {es : Es} {pos : Pos} {pn : List Nat}
theorem qv (i : Nat) {x : Str} (hN : X.N[i]? = some x := by rfl) (hv : Vis X.env.scope x := by first | exact Or.inl rfl | exact Or.inr (Or.inl rfl) | exact Or.inr (Or.inr rfl)) (hd : (x == ("__debug__" : Str)) = false := by decide)
    (hcd : (x == ("__classdict__" : Str)) = false := by decide) : Sn X C (.Name x pos) (.v i) := sn_v (pe_var hN hv hd hcd)
theorem qi {i : Int} {j : Nat} : Sn X C (.Constant (.int i) j pos) (.c (.int i)) := sn_c pe_int fun _ => rfl
theorem qs {x : Str} {l : List Nat} {j : Nat} (h : x = st l := by rfl) : Sn X C (.Constant (.str x) j pos) (.c (.str l)) := sn_c pe_str fun _ => by rw [h]; rfl
theorem qb {x : Bool} {j : Nat} : Sn X C (.Constant (.bool x) j pos) (.c (.bl x)) := sn_c pe_bl fun _ => rfl
theorem qn {j : Nat} : Sn X C (.Constant .none j pos) (.c .non) := sn_c pe_non fun _ => rfl
/-- and, or as values -/
theorem qand {rest : List Expr} (ha : Sn X C a ea) (hb : PE X (.BoolOp .And (b :: rest) pos) (tR X.K (ev C eb))) : PE X (.BoolOp .And (a :: b :: rest) pos) (tR X.K (ev C (.and ea eb))) := pe_andE ha.r hb
theorem qor {rest : List Expr} (ha : Sn X C a ea) (hb : PE X (.BoolOp .Or (b :: rest) pos) (tR X.K (ev C eb))) : PE X (.BoolOp .Or (a :: b :: rest) pos) (tR X.K (ev C (.or ea eb))) := pe_orE ha.r hb
theorem q_and (h : PE X a (tR X.K (ev C (.and ea eb)))) : Sn X C a (.and ea eb) := .of h fun i => by simp
theorem q_or (h : PE X a (tR X.K (ev C (.or ea eb)))) : Sn X C a (.or ea eb) := .of h fun i => by simp
variable (P : Pk X C k tb bs cs)
include P
theorem q_k (i : Nat) {x : Str} {d : D} (h : cs[i]? = some (x, d) := by rfl) (hg : Gl X x := by rfl) (hn : (x == ("__debug__" : Str)) = false := by decide) : Sn X C (.Name x pos) (.c d) := sn_k (P.ks i x d h) hg hn
theorem q_eq (ha : Sn X C a ea) (hb : Sn X C b eb) : Sn X C (.Compare a [.Eq] [b] pos) (.op .eq (.cons ea (.cons eb .nil))) := sn_cmp (ob_eq (P.u 64 (by decide))) ha hb (nomark _)
theorem q_ne (ha : Sn X C a ea) (hb : Sn X C b eb) : Sn X C (.Compare a [.NotEq] [b] pos) (.op .ne (.cons ea (.cons eb .nil))) := sn_cmp (ob_ne (P.u 64 (by decide))) ha hb (nomark _)
theorem q_lt (ha : Sn X C a ea) (hb : Sn X C b eb) : Sn X C (.Compare a [.Lt] [b] pos) (.op .lt (.cons ea (.cons eb .nil))) := sn_cmp ob_lt ha hb (nomark _)
theorem q_gt (ha : Sn X C a ea) (hb : Sn X C b eb) : Sn X C (.Compare a [.Gt] [b] pos) (.op .gt (.cons ea (.cons eb .nil))) := sn_cmp ob_gt ha hb (nomark _)
theorem q_le (ha : Sn X C a ea) (hb : Sn X C b eb) : Sn X C (.Compare a [.LtE] [b] pos) (.op .le (.cons ea (.cons eb .nil))) := sn_cmp ob_le ha hb (nomark _)
theorem q_ge (ha : Sn X C a ea) (hb : Sn X C b eb) : Sn X C (.Compare a [.GtE] [b] pos) (.op .ge (.cons ea (.cons eb .nil))) := sn_cmp ob_ge ha hb (nomark _)
theorem q_in (ha : Sn X C a ea) (hb : Sn X C b eb) (hm : behindInMarks .In b = false := by rfl) : Sn X C (.Compare a [.In] [b] pos) (.op .in_ (.cons ea (.cons eb .nil))) := sn_cmp (ob_in (P.u 65 (by decide))) ha hb hm
theorem q_nin (ha : Sn X C a ea) (hb : Sn X C b eb) (hm : behindInMarks .NotIn b = false := by rfl) : Sn X C (.Compare a [.NotIn] [b] pos) (.op .nin (.cons ea (.cons eb .nil))) := sn_cmp (ob_nin (P.u 65 (by decide))) ha hb hm
theorem t_eq (ha : Sn X C a ea) (hb : Sn X C b eb) : SnT X C (.Compare a [.Eq] [b] pos) (.op .eq (.cons ea (.cons eb .nil))) := snT_cmp (ob_eq (P.u 64 (by decide))) ha hb (nomark _)
theorem t_ne (ha : Sn X C a ea) (hb : Sn X C b eb) : SnT X C (.Compare a [.NotEq] [b] pos) (.op .ne (.cons ea (.cons eb .nil))) := snT_cmp (ob_ne (P.u 64 (by decide))) ha hb (nomark _)
theorem t_lt (ha : Sn X C a ea) (hb : Sn X C b eb) : SnT X C (.Compare a [.Lt] [b] pos) (.op .lt (.cons ea (.cons eb .nil))) := snT_cmp ob_lt ha hb (nomark _)
theorem t_gt (ha : Sn X C a ea) (hb : Sn X C b eb) : SnT X C (.Compare a [.Gt] [b] pos) (.op .gt (.cons ea (.cons eb .nil))) := snT_cmp ob_gt ha hb (nomark _)
theorem t_le (ha : Sn X C a ea) (hb : Sn X C b eb) : SnT X C (.Compare a [.LtE] [b] pos) (.op .le (.cons ea (.cons eb .nil))) := snT_cmp ob_le ha hb (nomark _)
theorem t_ge (ha : Sn X C a ea) (hb : Sn X C b eb) : SnT X C (.Compare a [.GtE] [b] pos) (.op .ge (.cons ea (.cons eb .nil))) := snT_cmp ob_ge ha hb (nomark _)
theorem t_in (ha : Sn X C a ea) (hb : Sn X C b eb) (hm : behindInMarks .In b = false := by rfl) : SnT X C (.Compare a [.In] [b] pos) (.op .in_ (.cons ea (.cons eb .nil))) := snT_cmp (ob_in (P.u 65 (by decide))) ha hb hm
theorem t_nin (ha : Sn X C a ea) (hb : Sn X C b eb) (hm : behindInMarks .NotIn b = false := by rfl) : SnT X C (.Compare a [.NotIn] [b] pos) (.op .nin (.cons ea (.cons eb .nil))) := snT_cmp (ob_nin (P.u 65 (by decide))) ha hb hm
theorem q_ix (ha : Sn X C a ea) (hb : Sn X C b eb) (hs : PlainIx b := by exact fun _ _ => rfl) : Sn X C (.Subscript a b pos) (.op .ix (.cons ea (.cons eb .nil))) := sn_ix (P.u 1 (by decide)) ha hb hs
theorem q_call (f : Nat) {x : Str} {n : Nat} {p : Pos} {io : List Bool} (ha : SnI X C io (a :: as) es) (hx : tb[f]? = some (x, n) := by rfl) (hio : C.io f = io := by rfl) (hg : Gl X x := by rfl) (hdb : (x == ("__debug__" : Str)) = false := by decide)
    (he : starEach (a :: as) X.env = (false, eval a X.env) :: starEach as X.env := by rfl) (hpl : (backTo pos (starEach as X.env)).any (·.1) = false := by rfl) : Sn X C (.Call (.Name x p) (a :: as) [] pos) (.call f es) :=
  sn_call (P.cl f x n hx) hio P.room hg ha hdb he hpl
theorem q_bi (i : Nat) {o : Op} {x : Str} {id : String} {p : Pos} (hc : Cb X (.builtin id) o) (ha : SnA X C (a :: as) es) (hx : bs[i]? = some x := by rfl) (hg : Gl X x := by rfl) (hv : bootBuiltins x = some (.builtin id) := by decide +kernel) (hk : o.keeps = false := by rfl) (hn : x ≠ "__name__" := by decide) (hdb : (x == ("__debug__" : Str)) = false := by decide)
    (he : starEach (a :: as) X.env = (false, eval a X.env) :: starEach as X.env := by rfl) (hpl : (backTo pos (starEach as X.env)).any (·.1) = false := by rfl) : Sn X C (.Call (.Name x p) (a :: as) [] pos) (.op o es) :=
  sn_callB hc hg (P.bi i x hx) hv ha hk hn hdb he hpl
theorem q_ty (i : Nat) {o : Op} {x : Str} {T : String} {p : Pos} (hc : Cb X (.type T) o) (ha : SnA X C (a :: as) es) (hx : bs[i]? = some x := by rfl) (hg : Gl X x := by rfl) (hv : bootBuiltins x = some (.type T) := by decide +kernel) (hk : o.keeps = false := by rfl) (hn : x ≠ "__name__" := by decide) (hdb : (x == ("__debug__" : Str)) = false := by decide)
    (he : starEach (a :: as) X.env = (false, eval a X.env) :: starEach as X.env := by rfl) (hpl : (backTo pos (starEach as X.env)).any (·.1) = false := by rfl) : Sn X C (.Call (.Name x p) (a :: as) [] pos) (.op o es) :=
  sn_callTy hc hg (P.bi i x hx) hv ha hk hn hdb he hpl
theorem q_isi (i j : Nat) {t : Ty} {y : Str} {p p2 : Pos} (ha : Sn X C a ea) (hm : bs[i]? = some "isinstance" := by rfl) (hm2 : bs[j]? = some y := by rfl) (hg : Gl X "isinstance" := by rfl) (hg2 : Gl X y := by rfl) (hy : bootBuiltins y = some (.type (tyName t)) := by decide +kernel) (hny : y ≠ "__name__" := by decide) (hdy : (y == ("__debug__" : Str)) = false := by decide)
    (he : starEach [a, .Name y p2] X.env = (false, eval a X.env) :: starEach [.Name y p2] X.env := by rfl) : Sn X C (.Call (.Name "isinstance" p) [a, .Name y p2] [] pos) (.op (.isi t) (.cons ea .nil)) := sn_isi ha hg (P.bi i _ hm) hg2 (P.bi j _ hm2) hy hny hdy he
theorem q_sset (i j : Nat) {p p2 pos2 : Pos} (ha : Sn X C a ea) (hm : bs[i]? = some "sorted" := by rfl) (hm2 : bs[j]? = some "set" := by rfl) (hg : Gl X "sorted" := by rfl) (hg2 : Gl X "set" := by rfl)
    (he : starEach [a] X.env = (false, eval a X.env) :: starEach [] X.env := by rfl) (he2 : starEach [.Call (.Name "set" p2) [a] [] pos2] X.env = (false, eval (.Call (.Name "set" p2) [a] [] pos2) X.env) :: starEach [] X.env := by rfl) :
    Sn X C (.Call (.Name "sorted" p) [.Call (.Name "set" p2) [a] [] pos2] [] pos) (.op .sset (.cons ea .nil)) := sn_sset P.calm (P.u 8 (by decide)) hg (P.bi i _ hm) hg2 (P.bi j _ hm2) ha he he2
theorem q_index {apos cpos : Pos} (ha : Sn X C a ea) (hb : Sn X C b eb) (m : M1 X a "index" apos b cpos := by exact ⟨rfl, rfl, rfl, rfl⟩) : Sn X C (.Call (.Attribute a "index" apos) [b] [] cpos) (.op .index (.cons ea (.cons eb .nil))) := sn_index ha hb m
theorem q_gtT (ha : Sn X C a ea) (hb : Sn X C b eb) : Sn X C (.Compare a [.Gt] [b] pos) (.op .gtT (.cons ea (.cons eb .nil))) := sn_cmp (ob_gtT (P.u 0 (by decide))) ha hb (nomark _)
theorem t_gtT (ha : Sn X C a ea) (hb : Sn X C b eb) : SnT X C (.Compare a [.Gt] [b] pos) (.op .gtT (.cons ea (.cons eb .nil))) := snT_cmp (ob_gtT (P.u 0 (by decide))) ha hb (nomark _)
theorem q_tupRange (i j : Nat) {p p2 pos2 : Pos} (ha : Sn X C a ea) (hm : bs[i]? = some "tuple" := by rfl) (hm2 : bs[j]? = some "range" := by rfl) (hg : Gl X "tuple" := by rfl) (hg2 : Gl X "range" := by rfl)
    (na : starEach [a] X.env = (false, eval a X.env) :: starEach [] X.env := by rfl) (na2 : starEach [.Call (.Name "range" p2) [a] [] pos2] X.env = (false, eval (.Call (.Name "range" p2) [a] [] pos2) X.env) :: starEach [] X.env := by rfl) :
    Sn X C (.Call (.Name "tuple" p) [.Call (.Name "range" p2) [a] [] pos2] [] pos) (.op .tupRange (.cons ea .nil)) := sn_tupRange P.calm hg (P.bi i _ hm) hg2 (P.bi j _ hm2) ha na na2
theorem q_get {apos cpos : Pos} (ha : Sn X C a ea) (hb : Sn X C b eb) (m : M1 X a "get" apos b cpos := by exact ⟨rfl, rfl, rfl, rfl⟩) : Sn X C (.Call (.Attribute a "get" apos) [b] [] cpos) (.op .get (.cons ea (.cons eb .nil))) := sn_get (P.u 1 (by decide)) ha hb m
theorem q_get2 {apos cpos : Pos} (ha : Sn X C a ea) (hb : Sn X C b eb) (hc : Sn X C c ec) (m : M2 X a "get" apos b c cpos := by exact ⟨rfl, rfl, rfl, rfl⟩) : Sn X C (.Call (.Attribute a "get" apos) [b, c] [] cpos) (.op .get2 (.cons ea (.cons eb (.cons ec .nil)))) := sn_get2 (P.u 1 (by decide)) ha hb hc m
theorem q_comp1 {elt tg iter : Expr} {ifs : List Expr} {scope : Scope} (own : List (Str × Nat)) {t : T} {k' : It} {es cs' : Es} {e : E} (hi : SnIt X C tg iter t.isT k' es)
    (hb : ∀ (s : Shared) (H : Hp) (D : Addr) (cl : List (Str × Addr)) (fp : List Addr), Pk (X.blk s H scope (compEnvC scope cl D X.env) fp) C k tb bs cs → SnG (X.blk s H scope (compEnvC scope cl D X.env) fp) tg t ∧ SnC (X.blk s H scope (compEnvC scope cl D X.env) fp) C ifs cs' ∧ Sn (X.blk s H scope (compEnvC scope cl D X.env) fp) C elt e)
    (ok : blkC X.N X.env.scope scope own = true := by kernel_rfl) (hv : (t.slots.all fun i => (own.map (·.2)).elem i) = true := by rfl) (hs : ∀ x, foldedSetIterable iter X.env x = pure x := by intro _; rfl) : Sn X C (.ListComp elt [⟨tg, iter, ifs, 0⟩] scope pos) (.comp (own.map (·.2)) t k' es cs' (.elt e)) :=
  sn_comp1 P.calm P.nd hi (blkOk_by ok) (fun i h => List.elem_iff.mp (List.all_eq_true.mp hv i h)) (fun s H D cl fp => hb s H D cl fp (P.blk ..)) hs
theorem q_comp2 {elt tg iter tg1 iter1 : Expr} {ifs ifs1 : List Expr} {scope : Scope} (own : List (Str × Nat)) {t t1 : T} {k' k1 : It} {es cs' es1 cs1 : Es} {e : E} (hi : SnIt X C tg iter t.isT k' es)
    (hb : ∀ (s : Shared) (H : Hp) (D : Addr) (cl : List (Str × Addr)) (fp : List Addr), Pk (X.blk s H scope (compEnvC scope cl D X.env) fp) C k tb bs cs → SnG (X.blk s H scope (compEnvC scope cl D X.env) fp) tg t ∧ SnC (X.blk s H scope (compEnvC scope cl D X.env) fp) C ifs cs' ∧ SnIt (X.blk s H scope (compEnvC scope cl D X.env) fp) C tg1 iter1 t1.isT k1 es1 ∧ SnG (X.blk s H scope (compEnvC scope cl D X.env) fp) tg1 t1 ∧
      SnC (X.blk s H scope (compEnvC scope cl D X.env) fp) C ifs1 cs1 ∧ Sn (X.blk s H scope (compEnvC scope cl D X.env) fp) C elt e)
    (ok : blkC X.N X.env.scope scope own = true := by kernel_rfl) (hv : (t.slots.all fun i => (own.map (·.2)).elem i) = true := by rfl) (hv1 : (t1.slots.all fun i => (own.map (·.2)).elem i) = true := by rfl) (hs : ∀ x, foldedSetIterable iter X.env x = pure x := by intro _; rfl) (hs1 : ∀ env x, foldedSetIterable iter1 env x = pure x := by intro _ _; rfl) :
    Sn X C (.ListComp elt [⟨tg, iter, ifs, 0⟩, ⟨tg1, iter1, ifs1, 0⟩] scope pos) (.comp (own.map (·.2)) t k' es cs' (.cons t1 k1 es1 cs1 (.elt e))) :=
  sn_comp2 P.calm P.nd hi (blkOk_by ok) (fun i h => List.elem_iff.mp (List.all_eq_true.mp hv i h)) (fun i h => List.elem_iff.mp (List.all_eq_true.mp hv1 i h)) (fun s H D cl fp => hb s H D cl fp (P.blk ..)) hs hs1
theorem s_comp1 {i : Nat} {y : Str} {py : Pos} {elt tg iter : Expr} {ifs : List Expr} {scope : Scope} (own : List (Str × Nat)) {spos : Pos} {t : T} {k' : It} {es cs' : Es} {e : E} (hi : SnIt X C tg iter t.isT k' es)
    (hb : ∀ (s : Shared) (H : Hp) (D : Addr) (cl : List (Str × Addr)) (fp : List Addr), Pk (X.blk s H scope (compEnvC scope cl D X.env) fp) C k tb bs cs → SnG (X.blk s H scope (compEnvC scope cl D X.env) fp) tg t ∧ SnC (X.blk s H scope (compEnvC scope cl D X.env) fp) C ifs cs' ∧ Sn (X.blk s H scope (compEnvC scope cl D X.env) fp) C elt e)
    (hy : X.N[i]? = some y := by rfl) (hyl : X.env.scope.names.lookup y = some .local := by rfl) (hpi : pn.elem i = false := by rfl) (hsw : swapsWith (.ListComp elt [⟨tg, iter, ifs, 0⟩] scope pos) (some (.Name y py)) spos.line X.env = pure true := by rfl)
    (ok : blkC X.N X.env.scope scope own = true := by kernel_rfl) (hv : (t.slots.all fun i => (own.map (·.2)).elem i) = true := by rfl) (hs : ∀ x, foldedSetIterable iter X.env x = pure x := by intro _; rfl) : SnS X C pn (.Assign [.Name y py] (.ListComp elt [⟨tg, iter, ifs, 0⟩] scope pos) spos) (.asg (.v i) (.comp (own.map (·.2)) t k' es cs' (.elt e))) :=
  snS_comp1 P.calm P.nd hy hyl (fun h => by rw [List.elem_iff.mpr h] at hpi; cases hpi) hsw hi (blkOk_by ok) (fun i h => List.elem_iff.mp (List.all_eq_true.mp hv i h)) (fun s H D cl fp => hb s H D cl fp (P.blk ..)) hs
theorem s_comp2 {i : Nat} {y : Str} {py : Pos} {elt tg iter tg1 iter1 : Expr} {ifs ifs1 : List Expr} {scope : Scope} (own : List (Str × Nat)) {spos : Pos} {t t1 : T} {k' k1 : It} {es cs' es1 cs1 : Es} {e : E} (hi : SnIt X C tg iter t.isT k' es)
    (hb : ∀ (s : Shared) (H : Hp) (D : Addr) (cl : List (Str × Addr)) (fp : List Addr), Pk (X.blk s H scope (compEnvC scope cl D X.env) fp) C k tb bs cs → SnG (X.blk s H scope (compEnvC scope cl D X.env) fp) tg t ∧ SnC (X.blk s H scope (compEnvC scope cl D X.env) fp) C ifs cs' ∧ SnIt (X.blk s H scope (compEnvC scope cl D X.env) fp) C tg1 iter1 t1.isT k1 es1 ∧ SnG (X.blk s H scope (compEnvC scope cl D X.env) fp) tg1 t1 ∧
      SnC (X.blk s H scope (compEnvC scope cl D X.env) fp) C ifs1 cs1 ∧ Sn (X.blk s H scope (compEnvC scope cl D X.env) fp) C elt e)
    (hy : X.N[i]? = some y := by rfl) (hyl : X.env.scope.names.lookup y = some .local := by rfl) (hpi : pn.elem i = false := by rfl) (hsw : swapsWith (.ListComp elt [⟨tg, iter, ifs, 0⟩, ⟨tg1, iter1, ifs1, 0⟩] scope pos) (some (.Name y py)) spos.line X.env = pure true := by rfl)
    (ok : blkC X.N X.env.scope scope own = true := by kernel_rfl) (hv : (t.slots.all fun i => (own.map (·.2)).elem i) = true := by rfl) (hv1 : (t1.slots.all fun i => (own.map (·.2)).elem i) = true := by rfl) (hs : ∀ x, foldedSetIterable iter X.env x = pure x := by intro _; rfl) (hs1 : ∀ env x, foldedSetIterable iter1 env x = pure x := by intro _ _; rfl) :
    SnS X C pn (.Assign [.Name y py] (.ListComp elt [⟨tg, iter, ifs, 0⟩, ⟨tg1, iter1, ifs1, 0⟩] scope pos) spos) (.asg (.v i) (.comp (own.map (·.2)) t k' es cs' (.cons t1 k1 es1 cs1 (.elt e)))) :=
  snS_comp2 P.calm P.nd hy hyl (fun h => by rw [List.elem_iff.mpr h] at hpi; cases hpi) hsw hi (blkOk_by ok) (fun i h => List.elem_iff.mp (List.all_eq_true.mp hv i h)) (fun i h => List.elem_iff.mp (List.all_eq_true.mp hv1 i h)) (fun s H D cl fp => hb s H D cl fp (P.blk ..)) hs hs1
theorem q_range1 (i : Nat) {tg : Expr} {tup : Bool} {p : Pos} (ha : SnA X C [a] es) (hm : bs[i]? = some "range" := by rfl) (hg : Gl X "range" := by rfl) (hs : starEach [a] X.env = [(false, eval a X.env)] := by rfl) : SnIt X C tg (.Call (.Name "range" p) [a] [] pos) tup .range es := snIt_range1 hg (P.bi i _ hm) ha hs
theorem q_range2 (i : Nat) {tg : Expr} {tup : Bool} {p : Pos} (ha : SnA X C [a, b] es) (hm : bs[i]? = some "range" := by rfl) (hg : Gl X "range" := by rfl) (hs : starEach [a, b] X.env = [(false, eval a X.env), (false, eval b X.env)] := by rfl) (hs2 : starEach [b] X.env = [(false, eval b X.env)] := by rfl) : SnIt X C tg (.Call (.Name "range" p) [a, b] [] pos) tup .range2 es := snIt_range2 hg (P.bi i _ hm) ha hs hs2
theorem q_zip (i : Nat) {p tpos : Pos} {elts : List Expr} {kk : Nat} (ha : SnA X C [a, b] es) (hm : bs[i]? = some "zip" := by rfl) (hg : Gl X "zip" := by rfl)
    (hs : starEach [a, b] X.env = (false, eval a X.env) :: starEach [b] X.env := by rfl) (hpl : (backTo pos (starEach [b] X.env)).any (·.1) = false := by rfl) : SnIt X C (.Tuple elts kk tpos) (.Call (.Name "zip" p) [a, b] [] pos) true .zip es := snIt_zip hg (P.bi i _ hm) ha hs hpl
theorem g_name (i : Nat) {x : Str} (hi : X.N[i]? = some x := by rfl) (hx : Loc X.env.scope x := by first | exact Or.inl rfl | exact Or.inr rfl) (hf : X.fn x = true ∨ X.env.scope.names.lookup x = some .local := by first | exact .inl rfl | exact .inr rfl) : SnG X (.Name x pos) (.v i) := snG_name (pg_name P.nd hi hx hf)
theorem g_tup {tgs : List Expr} {kk : Nat} {ts : List T} (h : SnGs X tgs ts) (hn : (assignEach tgs X.env).length = ts.length := by rfl) (hst : (assignEach tgs X.env).findIdx? (·.1) = none := by rfl) : SnG X (.Tuple tgs kk pos) (.t ts) := snG_tup P.calm h hn hst
/-! ### statements -/
theorem s_set {i : Nat} {x : Str} {pos' : Pos} (h : Sn X C a ea) (hi : X.N[i]? = some x := by rfl) (hx : Loc X.env.scope x := by first | exact Or.inl rfl | exact Or.inr rfl) (hp : pn.elem i = false := by rfl) (hf : X.fn x = true ∨ X.env.scope.names.lookup x = some .local := by first | exact .inl rfl | exact .inr rfl) (hs : swapsWith a (some (.Name x pos')) pos.line X.env = pure false := by rfl) : SnS X C pn (.Assign [.Name x pos'] a pos) (.asg (.v i) ea) :=
  snS_asgV P.nd hi hx h (fun m => by rw [List.elem_iff.mpr m] at hp; cases hp) hf hs
theorem s_tup {tg : Expr} {ts : List T} (h : Sn X C a ea) (hg : SnG X tg (.t ts)) (hp : ((T.t ts).slots.all fun i => !pn.elem i) = true := by rfl) (hs : swapsWithSole [tg] a pos.line X.env = pure false := by rfl) (hw : swappedStores [tg] a X.env = pure none := by rfl)
    (h1 : (assignEach [tg] X.env).map (·.2) = [PySem.assign tg X.env] := by rfl) : SnS X C pn (.Assign [tg] a pos) (.asg (.t ts) ea) := snS_asgT h hg (fun i m z => by
      have := List.all_eq_true.mp hp i m
      rw [List.elem_iff.mpr z] at this
      cases this) hs hw h1
theorem s_aug {i : Nat} {x : Str} {op : Operator} {o : Op} {pos' : Pos} (ho : Ip X op o) (h : Sn X C a ea) (hi : X.N[i]? = some x := by rfl) (hx : Loc X.env.scope x := by first | exact Or.inl rfl | exact Or.inr rfl) (hp : pn.elem i = false := by rfl) (hf : X.fn x = true ∨ X.env.scope.names.lookup x = some .local := by first | exact .inl rfl | exact .inr rfl) : SnS X C pn (.AugAssign (.Name x pos') op a pos) (.aug i o ea) :=
  snS_aug P.nd hi hx h ho (fun m => by rw [List.elem_iff.mpr m] at hp; cases hp) hf
theorem s_setix {o k' : Expr} {i : Nat} {ek e : E} {tpos : Pos} (ho : PE X o (tVar i)) (hk : Sn X C k' ek) (h : Sn X C a e)
    (ha : ∀ v, PySem.assign (.Subscript o k' tpos) X.env v = (do
      let ov ← holding [v] (eval o X.env)
      let iv ← holding [v, ov] (eval k' X.env)
      standAt tpos
      holding [v, ov, iv] (setItem ov iv v)
      release [v, ov, iv] []) := by intro _; rfl)
    (hs : swapsWithSole [.Subscript o k' tpos] a pos.line X.env = pure false := by rfl) (hw : swappedStores [.Subscript o k' tpos] a X.env = pure none := by rfl)
    (h1 : (assignEach [.Subscript o k' tpos] X.env).map (·.2) = [PySem.assign (.Subscript o k' tpos) X.env] := by rfl) : SnS X C pn (.Assign [.Subscript o k' tpos] a pos) (.setix i ek e) := snS_setix (P.u 1 (by decide)) ho hk h ha hs hw h1
theorem s_augix {o k' : Expr} {i : Nat} {ek e : E} {op : Operator} {oo : Op} {tpos : Pos} (hop : Ip X op oo) (ho : PE X o (tVar i)) (hk : Sn X C k' ek) (h : Sn X C a e)
    (ha : ∀ ov iv new, augStore k' ov iv new = (do holding [new, ov, iv] (setItem ov iv new); release [new, ov, iv] []; pure .next) := by intros; rfl) : SnS X C pn (.AugAssign (.Subscript o k' tpos) op a pos) (.augix i ek oo e) := snS_augix (P.u 1 (by decide)) ho hk h hop ha
theorem s_whl {c : Expr} {body : List Stmt} {e : E} {b : Ss} {kill : List Nat} (hp : PassesOwn (model X.prog X.w) X.A X.env X.xe) (hc : SnT X C c e) (hb : SnB X C pn body b) : SnS X C pn (.While c body [] pos) (.whl e b kill) := snS_whl hp P.wh hc hb
theorem s_for {tg iter : Expr} {body : List Stmt} {t : T} {k' : It} {es : Es} {b : Ss} {kill : List Nat} (hp : PassesOwn (model X.prog X.w) X.A X.env X.xe) (hi : SnIt X C tg iter t.isT k' es) (hg : SnG X tg t) (hb : SnB X C pn body b) (ht : (t.slots.all fun i => !pn.elem i) = true := by rfl)
    (hs : ∀ x, foldedSetIterable iter X.env x = pure x := by intro _; rfl) : SnS X C pn (.For tg iter body [] pos) (.for t k' es b kill) := snS_for hp P.calm hi hg (fun i m z => by
      have := List.all_eq_true.mp ht i m
      rw [List.elem_iff.mpr z] at this
      cases this) hb hs
theorem s_parT (i j : Nat) {x y : Str} {px py pt : Pos} {kt k2 pt2} (ha : Sn X C a ea) (hb : Sn X C b eb) (hi : X.N[i]? = some x := by rfl) (hj : X.N[j]? = some y := by rfl)
    (lx : Loc X.env.scope x := by first | exact Or.inl rfl | exact Or.inr rfl) (ly : Loc X.env.scope y := by first | exact Or.inl rfl | exact Or.inr rfl)
    (fx : X.fn x = true ∨ X.env.scope.names.lookup x = some .local := by first | exact .inl rfl | exact .inr rfl) (fy : X.fn y = true ∨ X.env.scope.names.lookup y = some .local := by first | exact .inl rfl | exact .inr rfl)
    (hpi : pn.elem i = false := by rfl) (hpj : pn.elem j = false := by rfl)
    (hs : swapsWithSole [.Tuple [.Name x px, .Name y py] kt pt] (.Tuple [a, b] k2 pt2) pos.line X.env = pure false := by rfl) (hw : swappedStores [.Tuple [.Name x px, .Name y py] kt pt] (.Tuple [a, b] k2 pt2) X.env = pure none := by rfl)
    (h0 : (assignEach [.Tuple [.Name x px, .Name y py] kt pt] X.env).map (·.2) = [PySem.assign (.Tuple [.Name x px, .Name y py] kt pt) X.env] := by rfl)
    (g1 : (assignEach [.Name x px, .Name y py] X.env).map (·.2) = PySem.assign (.Name x px) X.env :: (assignEach [.Name y py] X.env).map (·.2) := by rfl) (g2 : (assignEach [.Name y py] X.env).map (·.2) = PySem.assign (.Name y py) X.env :: (assignEach [] X.env).map (·.2) := by rfl)
    (g3 : (assignEach [.Name x px, .Name y py] X.env).length = 2 := by rfl) (g4 : (assignEach [.Name x px, .Name y py] X.env).findIdx? (·.1) = none := by rfl)
    (h1 : starEach [a, b] X.env = (false, eval a X.env) :: starEach [b] X.env := by rfl) (h2 : starEach [b] X.env = (false, eval b X.env) :: starEach [] X.env := by rfl) :
    SnS X C pn (.Assign [.Tuple [.Name x px, .Name y py] kt pt] (.Tuple [a, b] k2 pt2) pos) (.par [i, j] (.cons ea (.cons eb .nil))) :=
  snS_parT P.calm P.nd hi hj (pg_name P.nd hi lx fx) (pg_name P.nd hj ly fy) ha hb (fun m => by rw [List.elem_iff.mpr m] at hpi; cases hpi) (fun m => by rw [List.elem_iff.mpr m] at hpj; cases hpj) hs hw h0 g1 g2 g3 g4 h1 h2
theorem s_par {i j : Nat} {x y : Str} {px py pt : Pos} {kt k2 pt2} (ha : Sn X C a ea) (hb : Sn X C b eb) (hi : X.N[i]? = some x := by rfl) (hj : X.N[j]? = some y := by rfl) (hij : i ≠ j := by decide)
    (hx : X.env.scope.names.lookup x = some .local := by rfl) (hy : X.env.scope.names.lookup y = some .local := by rfl) (hpi : pn.elem i = false := by rfl) (hpj : pn.elem j = false := by rfl)
    (hw : swappedStores [.Tuple [.Name x px, .Name y py] kt pt] (.Tuple [a, b] k2 pt2) X.env = pure (some [x, y]) := by rfl)
    (hs : swapsWithSole [.Tuple [.Name x px, .Name y py] kt pt] (.Tuple [a, b] k2 pt2) pos.line X.env = pure false := by rfl)
    (h1 : starEach [a, b] X.env = (false, eval a X.env) :: starEach [b] X.env := by rfl) (h2 : starEach [b] X.env = (false, eval b X.env) :: starEach [] X.env := by rfl) :
    SnS X C pn (.Assign [.Tuple [.Name x px, .Name y py] kt pt] (.Tuple [a, b] k2 pt2) pos) (.par [i, j] (.cons ea (.cons eb .nil))) :=
  snS_par P.calm P.nd hi hj hij hx hy ha hb (fun m => by rw [List.elem_iff.mpr m] at hpi; cases hpi) (fun m => by rw [List.elem_iff.mpr m] at hpj; cases hpj) hw hs h1 h2
end
end Pv
end
section
/-! PvR: a table of defs, and the law's head. -/
namespace Pv
open PySem PySem.Spec PyProof.Rows L2 RZ

/-- a def: its name, its text, its slots, its parameters, its term -/
structure Row where
  x : Str
  st : Stmt
  N : List Str
  ps : List Str
  fn : Fn
theorem callF_len {wh : (Env → Out Bool) → (Env → Fl) → Env → Fl} {tbl : Nat → Option Fn} : ∀ {k f : Nat} {rs : List R}, callF wh tbl k f rs ≠ .no → ∃ fn, tbl f = some fn ∧ rs.length = fn.io.length
  | 0, f, rs, h => absurd rfl h
  | k + 1, f, rs, h => by
    rw [callF] at h
    cases e : tbl f with
    | none => rw [e] at h; exact absurd rfl h
    | some fn =>
      rw [e] at h
      refine ⟨fn, rfl, ?_⟩
      by_cases hf : ioFits fn.io rs = true
      · exact (ioFits_at hf).1.symm
      · simp only at h
        rw [if_neg hf] at h
        exact absurd rfl h
/-- the name stands for that def -/
def AtMg (K : PySem.W.Frag) (mg : Str → Option Value) (r : Row) : Prop := ∃ fa fd, Fun K r.x r.x r.st fa fd ∧ mg r.x = some (.ref fa) ∧ Binds K fd r.ps []
structure RowOk (tbl : Nat → Option Fn) (tb : List (Str × Nat)) (bs : List Str) (cs : List (Str × D)) (i : Nat) (r : Row) : Prop where
  t : tbl i = some r.fn
  ns : r.fn.ns = r.N.length
  np : r.fn.np = r.ps.length
  io : r.fn.io.length = r.ps.length
  sc : FnScope r.N r.ps (defScope r.st)
  d : ∀ {pr : Program} {w : World} {K : PySem.W.Frag} {mg : Str → Option Value} {base : Heap} {fa : Addr} {cdv : Value} {A : Around} {outer : List PySem.Env} {s : Shared} {H : Hp} {E : XK} {k : Nat},
    Pk (cxOf CX0 pr w K mg base r.N r.x (defScope r.st) fa cdv A outer s H E).nox (mkC tbl k) k tb bs cs → SnB (cxOf CX0 pr w K mg base r.N r.x (defScope r.st) fa cdv A outer s H E).nox (mkC tbl k) (ixs r.fn.io) (defBody r.st) r.fn.body
def AllR (p : Nat → Row → Prop) : Nat → List Row → Prop
  | _, [] => True
  | i, r :: rs => p i r ∧ AllR p (i + 1) rs
theorem AllR.at {p : Nat → Row → Prop} : ∀ {rs : List Row} {i j : Nat} {r : Row}, AllR p i rs → rs[j]? = some r → p (i + j) r
  | [], i, j, r, _, h => by simp at h
  | r :: rs, i, 0, r', h, e => by simp at e; subst e; exact h.1
  | r :: rs, i, j + 1, r', h, e => by
    have := AllR.at (i := i + 1) (j := j) h.2 (by simpa using e)
    rw [show i + (j + 1) = i + 1 + j by omega]
    exact this
section
variable {pr : Program} {w : World} {K : PySem.W.Frag} {mg : Str → Option Value} {base : Heap}
/-- all defs of the table, k levels deep -/
theorem levels {tbl : Nat → Option Fn} {rows : List Row} {bs : List Str} {cs : List (Str × D)} (hr : AllR (RowOk tbl (rows.map fun r => (r.x, r.ps.length)) bs cs) 0 rows) (hm : AllR (fun _ r => AtMg K mg r) 0 rows)
    (hb : ∀ (i : Nat) x, bs[i]? = some x → mg x = none) (hk : ∀ (i : Nat) x d, cs[i]? = some (x, d) → ∃ v u, mg x = some u ∧ RelV v u ∧ ∀ H, Rep K H d v) :
    ∀ (k f : Nat) (r : Row), rows[f]? = some r → ∀ fa fd, Fun K r.x r.x r.st fa fd → FnOk pr w K mg base CX0 k fa fd r.ps (spD K (callF whileW tbl k) r.ps.length f) := by
  intro k
  induction k with
  | zero => exact fun f r e fa fd F => fn_zero
  | succ k ih =>
    intro f r e fa fd F
    have R := hr.at e
    rw [Nat.zero_add] at R
    refine fn_ok F R.sc R.t R.ns R.np R.io fun cdv A outer s H E hr' => R.d ⟨rfl, hr', R.sc.nd, rfl, fun f' x n hf => ?_, hb, hk⟩
    rw [List.getElem?_map] at hf
    cases e2 : rows[f']? with
    | none => rw [e2] at hf; cases hf
    | some r' =>
      rw [e2] at hf
      cases hf
      obtain ⟨fa', fd', F', g2, g4⟩ : AtMg K mg r' := hm.at e2
      refine ⟨⟨fa', fd', r'.ps, ih f' r' e2 fa' fd' F', g2, F'.kp, g4⟩, fun rs hrs => ?_⟩
      obtain ⟨fn, t1, t2⟩ := callF_len (k := k) (f := f') (wh := whileW) (tbl := tbl) hrs
      have R' := hr.at e2
      rw [Nat.zero_add, ] at R'
      rw [R'.t] at t1
      cases t1
      rw [t2, R'.io]
/-- no list among the module's objects -/
def noLists (K : PySem.W.Frag) : Bool := K.all fun p => match p.2.cls with
  | .type n => !(n == "list")
  | _ => true
/-- what the law's def promises -/
def spTop (K : PySem.W.Frag) (tbl : Nat → Option Fn) (k f : Nat) : Sp := fun vs H Q E => spD K (callF whileW tbl k) 1 f vs H Q E
theorem top_sp {tbl : Nat → Option Fn} {k f : Nat} {H : Hp} {a : Addr} {ns : List Int} {E : XK} (nl : noLists K = true) (hs : SqL K H a (ns.map V.int)) (ho : Only H) (law : callF whileW tbl k f [.v (.lst (ns.map .int))] = .ok (.v (.bl true)) []) :
    spTop K tbl k f [.ref a] H (fun v _ => v = .bl true) E := by
  have fz : FzL H a (ns.map V.int) := by
    rcases hs with (hs | hs) | ⟨o, its, n, h1, h2, _⟩
    · rcases ho a with z | ⟨o, xs, z⟩
      · rw [hs] at z; cases z
      · rw [hs] at z; cases z
    · exact hs
    · exfalso
      have : ∀ {l : List (Addr × Obj)}, l.lookup a = some o → (a, o) ∈ l := by
        intro l
        induction l with
        | nil => intro h; cases h
        | cons p l ih =>
          intro h
          obtain ⟨b, x⟩ := p
          rw [List.lookup_cons] at h
          split at h
          · rename_i e
            have e' : a = b := by simpa using e
            cases h
            rw [e']
            exact List.mem_cons_self
          · exact List.mem_cons_of_mem _ (ih h)
      have hh := List.all_eq_true.mp nl _ (this h1)
      rw [h2] at hh
      exact absurd hh (by decide)
  refine ⟨[.v (.lst (ns.map .int))], rfl, ⟨.ref a, [], rfl, ⟨a, _, rfl, fz, reps_ints ns⟩, rfl⟩, fun i j r s p ne h1 h2 o1 _ _ => ?_, ?_⟩
  · cases i with
    | zero => simp at h1; subst h1; cases o1
    | succ i => simp at h1
  · rw [law]
    exact fun v H' _ rv _ _ => rv
theorem at_mk {h : Heap} {r : Row} {fa : Addr} {oc : Value} {od an : Option Addr} {osl : Array (Option Value)} {kV doc pm cdv ct : Value} (KX : K.In h) (G : h.Ns mainGlobals mg)
    (a : PySem.W.nsIn K mainGlobals r.x = some (some (.ref fa))) (l : K.lookup fa = some ⟨oc, od, .func (PySem.W.fnOf r.x r.x (defArgs r.st) (defBody r.st) (defScope r.st) .none kV doc pm an cdv ct), osl⟩)
    (c : PySem.W.codeIn K cdv r.x = true) (k : PySem.W.keepIn K (.ref fa) = true)
    (b : ∀ (kV doc pm : Value) (an : Option Addr) (cdv ct : Value) (us : List Value), us.length = r.ps.length → bindArgs (PySem.W.fnOf r.x r.x (defArgs r.st) (defBody r.st) (defScope r.st) .none kV doc pm an cdv ct) ⟨us, []⟩ = pure (r.ps.zip us)) : AtMg K mg r :=
  ⟨fa, _, fun_mk l c k, PySem.W.mg_of KX G a, (fun_mk l c k).binds b⟩
end
end Pv
end
section
/-! Tk06: a law's defs as terms of PvA (printed by drv.py). -/
namespace Tk06
open Pv

/-- 0 goals_of(edges, some, places); slots 0:edges 1:some 2:places 3:found 4:waiting 5:place 6:k -/
def S_goals_of_1 : S := (.par [3, 4] (.cons (.op .dic .nil) (.cons (.op .listOf (.cons (.v 2) .nil)) .nil)))
def S_goals_of_2 : S := (.asg (.v 5) (.pop 4))
def Q_goals_of_3 : E := (.op .nin (.cons (.v 5) (.cons (.v 3) .nil)))
def S_goals_of_4 : S := (.setix 3 (.v 5) (.c (.bl true)))
def C_goals_of_5 : E := (.comp [6] (.v 6) .val (.cons (.v 1) .nil) (.cons (.op .eq (.cons (.op .ix (.cons (.op .ix (.cons (.v 0) (.cons (.v 6) .nil))) (.cons (.c (.int 0)) .nil))) (.cons (.v 5) .nil))) .nil) (.elt (.op .ix (.cons (.op .ix (.cons (.v 0) (.cons (.v 6) .nil))) (.cons (.c (.int 1)) .nil)))))
@[simp] theorem nC_goals_of_5 (i : Nat) : (C_goals_of_5 = E.v i) = False := eq_false nofun
def S_goals_of_6 : S := (.ext 4 C_goals_of_5)
def B_goals_of_7 : Ss := (.cons S_goals_of_4 (.cons S_goals_of_6 .nil))
def S_goals_of_8 : S := (.ife Q_goals_of_3 B_goals_of_7 .nil)
def B_goals_of_9 : Ss := (.cons S_goals_of_2 (.cons S_goals_of_8 .nil))
def S_goals_of_10 : S := (.whl (.op .ne (.cons (.v 4) (.cons (.op .lst .nil) .nil))) B_goals_of_9 [5])
def S_goals_of_11 : S := (.ret (.op .tupleOf (.cons (.op .sorted (.cons (.v 3) .nil)) .nil)))
def B_goals_of_12 : Ss := (.cons S_goals_of_1 (.cons S_goals_of_10 (.cons S_goals_of_11 .nil)))
def b_goals_of : Ss := B_goals_of_12
/-- 1 sources_of(edges, some, places); slots 0:edges 1:some 2:places 3:found 4:waiting 5:place 6:k -/
def S_sources_of_1 : S := (.par [3, 4] (.cons (.op .dic .nil) (.cons (.op .listOf (.cons (.v 2) .nil)) .nil)))
def S_sources_of_2 : S := (.asg (.v 5) (.pop 4))
def Q_sources_of_3 : E := (.op .nin (.cons (.v 5) (.cons (.v 3) .nil)))
def S_sources_of_4 : S := (.setix 3 (.v 5) (.c (.bl true)))
def C_sources_of_5 : E := (.comp [6] (.v 6) .val (.cons (.v 1) .nil) (.cons (.op .eq (.cons (.op .ix (.cons (.op .ix (.cons (.v 0) (.cons (.v 6) .nil))) (.cons (.c (.int 1)) .nil))) (.cons (.v 5) .nil))) .nil) (.elt (.op .ix (.cons (.op .ix (.cons (.v 0) (.cons (.v 6) .nil))) (.cons (.c (.int 0)) .nil)))))
@[simp] theorem nC_sources_of_5 (i : Nat) : (C_sources_of_5 = E.v i) = False := eq_false nofun
def S_sources_of_6 : S := (.ext 4 C_sources_of_5)
def B_sources_of_7 : Ss := (.cons S_sources_of_4 (.cons S_sources_of_6 .nil))
def S_sources_of_8 : S := (.ife Q_sources_of_3 B_sources_of_7 .nil)
def B_sources_of_9 : Ss := (.cons S_sources_of_2 (.cons S_sources_of_8 .nil))
def S_sources_of_10 : S := (.whl (.op .ne (.cons (.v 4) (.cons (.op .lst .nil) .nil))) B_sources_of_9 [5])
def S_sources_of_11 : S := (.ret (.op .tupleOf (.cons (.op .sorted (.cons (.v 3) .nil)) .nil)))
def B_sources_of_12 : Ss := (.cons S_sources_of_1 (.cons S_sources_of_10 (.cons S_sources_of_11 .nil)))
def b_sources_of : Ss := B_sources_of_12
/-- 2 places_of(edges, some); slots 0:edges 1:some 2:k -/
def C_places_of_1 : E := (.comp [2] (.v 2) .val (.cons (.v 1) .nil) .nil (.elt (.op .ix (.cons (.op .ix (.cons (.v 0) (.cons (.v 2) .nil))) (.cons (.c (.int 0)) .nil)))))
@[simp] theorem nC_places_of_1 (i : Nat) : (C_places_of_1 = E.v i) = False := eq_false nofun
def C_places_of_2 : E := (.comp [2] (.v 2) .val (.cons (.v 1) .nil) .nil (.elt (.op .ix (.cons (.op .ix (.cons (.v 0) (.cons (.v 2) .nil))) (.cons (.c (.int 1)) .nil)))))
@[simp] theorem nC_places_of_2 (i : Nat) : (C_places_of_2 = E.v i) = False := eq_false nofun
def S_places_of_3 : S := (.ret (.op .tupleOf (.cons (.op .sset (.cons (.op .add (.cons C_places_of_1 (.cons C_places_of_2 .nil))) .nil)) .nil)))
def B_places_of_4 : Ss := (.cons S_places_of_3 .nil)
def b_places_of : Ss := B_places_of_4
/-- 3 rings_of(edges, some); slots 0:edges 1:some 2:behind 3:found 4:met 5:k 6:source 7:target 8:own 9:n 10:place -/
def C_rings_of_1 : E := (.comp [10] (.v 10) .val (.cons (.call 2 (.cons (.v 0) (.cons (.v 1) .nil))) .nil) .nil (.elt (.op .tup (.cons (.v 10) (.cons (.call 0 (.cons (.v 0) (.cons (.v 1) (.cons (.op .tup (.cons (.v 10) .nil)) .nil)))) .nil)))))
@[simp] theorem nC_rings_of_1 (i : Nat) : (C_rings_of_1 = E.v i) = False := eq_false nofun
def S_rings_of_2 : S := (.asg (.v 2) (.op .dictOf (.cons C_rings_of_1 .nil)))
def S_rings_of_3 : S := (.par [3, 4] (.cons (.op .lst .nil) (.cons (.op .dic .nil) .nil)))
def S_rings_of_4 : S := (.asg (.t [(.v 6), (.v 7)]) (.op .tup (.cons (.op .ix (.cons (.op .ix (.cons (.v 0) (.cons (.v 5) .nil))) (.cons (.c (.int 0)) .nil))) (.cons (.op .ix (.cons (.op .ix (.cons (.v 0) (.cons (.v 5) .nil))) (.cons (.c (.int 1)) .nil))) .nil))))
def Q_rings_of_5 : E := (.and (.op .nin (.cons (.v 5) (.cons (.v 4) .nil))) (.op .in_ (.cons (.v 6) (.cons (.op .ix (.cons (.v 2) (.cons (.v 7) .nil))) .nil))))
def C_rings_of_6 : E := (.comp [9] (.v 9) .val (.cons (.v 1) .nil) (.cons (.call 4 (.cons (.op .ix (.cons (.v 0) (.cons (.v 9) .nil))) (.cons (.v 2) (.cons (.v 6) .nil)))) .nil) (.elt (.v 9)))
@[simp] theorem nC_rings_of_6 (i : Nat) : (C_rings_of_6 = E.v i) = False := eq_false nofun
def S_rings_of_7 : S := (.asg (.v 8) (.op .tupleOf (.cons C_rings_of_6 .nil)))
def S_rings_of_8 : S := (.setix 4 (.v 9) (.c (.bl true)))
def B_rings_of_9 : Ss := (.cons S_rings_of_8 .nil)
def S_rings_of_10 : S := (.for (.v 9) .val (.cons (.v 8) .nil) B_rings_of_9 [9])
def S_rings_of_11 : S := (.app 3 (.v 8))
def B_rings_of_12 : Ss := (.cons S_rings_of_7 (.cons S_rings_of_10 (.cons S_rings_of_11 .nil)))
def S_rings_of_13 : S := (.ife Q_rings_of_5 B_rings_of_12 .nil)
def B_rings_of_14 : Ss := (.cons S_rings_of_4 (.cons S_rings_of_13 .nil))
def S_rings_of_15 : S := (.for (.v 5) .val (.cons (.v 1) .nil) B_rings_of_14 [5, 6, 7, 8, 9])
def S_rings_of_16 : S := (.ret (.op .tupleOf (.cons (.op .sorted (.cons (.v 3) .nil)) .nil)))
def B_rings_of_17 : Ss := (.cons S_rings_of_2 (.cons S_rings_of_3 (.cons S_rings_of_15 (.cons S_rings_of_16 .nil))))
def b_rings_of : Ss := B_rings_of_17
/-- 4 is_beside(edge, behind, place); slots 0:edge 1:behind 2:place 3:source 4:target -/
def S_is_beside_1 : S := (.par [3, 4] (.cons (.op .ix (.cons (.v 0) (.cons (.c (.int 0)) .nil))) (.cons (.op .ix (.cons (.v 0) (.cons (.c (.int 1)) .nil))) .nil)))
def S_is_beside_2 : S := (.ret (.and (.op .in_ (.cons (.v 3) (.cons (.op .ix (.cons (.v 1) (.cons (.v 2) .nil))) .nil))) (.op .in_ (.cons (.v 2) (.cons (.op .ix (.cons (.v 1) (.cons (.v 4) .nil))) .nil)))))
def B_is_beside_3 : Ss := (.cons S_is_beside_1 (.cons S_is_beside_2 .nil))
def b_is_beside : Ss := B_is_beside_3
/-- 5 off_rings(edges, some); slots 0:edges 1:some 2:rings 3:k 4:ring -/
def S_off_rings_1 : S := (.asg (.v 2) (.call 3 (.cons (.v 0) (.cons (.v 1) .nil))))
def C_off_rings_2 : E := (.comp [4] (.v 4) .val (.cons (.v 2) .nil) .nil (.elt (.op .in_ (.cons (.v 3) (.cons (.v 4) .nil)))))
@[simp] theorem nC_off_rings_2 (i : Nat) : (C_off_rings_2 = E.v i) = False := eq_false nofun
def C_off_rings_3 : E := (.comp [3] (.v 3) .val (.cons (.v 1) .nil) (.cons (.not (.op .any (.cons C_off_rings_2 .nil))) .nil) (.elt (.v 3)))
@[simp] theorem nC_off_rings_3 (i : Nat) : (C_off_rings_3 = E.v i) = False := eq_false nofun
def S_off_rings_4 : S := (.ret (.op .tupleOf (.cons C_off_rings_3 .nil)))
def B_off_rings_5 : Ss := (.cons S_off_rings_1 (.cons S_off_rings_4 .nil))
def b_off_rings : Ss := B_off_rings_5
/-- 6 order_of(edges, some, first); slots 0:edges 1:some 2:first 3:reach 4:behind 5:rows 6:place 7:_ -/
def S_order_of_1 : S := (.asg (.v 3) (.call 0 (.cons (.v 0) (.cons (.v 1) (.cons (.op .tup (.cons (.v 2) .nil)) .nil)))))
def C_order_of_2 : E := (.comp [6] (.v 6) .val (.cons (.v 3) .nil) .nil (.elt (.op .tup (.cons (.v 6) (.cons (.call 0 (.cons (.v 0) (.cons (.v 1) (.cons (.op .tup (.cons (.v 6) .nil)) .nil)))) .nil)))))
@[simp] theorem nC_order_of_2 (i : Nat) : (C_order_of_2 = E.v i) = False := eq_false nofun
def S_order_of_3 : S := (.asg (.v 4) (.op .dictOf (.cons C_order_of_2 .nil)))
def C_order_of_4 : E := (.comp [6] (.v 6) .val (.cons (.v 3) .nil) .nil (.elt (.op .tup (.cons (.op .neg (.cons (.op .len (.cons (.op .ix (.cons (.v 4) (.cons (.v 6) .nil))) .nil)) .nil)) (.cons (.v 6) .nil)))))
@[simp] theorem nC_order_of_4 (i : Nat) : (C_order_of_4 = E.v i) = False := eq_false nofun
def S_order_of_5 : S := (.asg (.v 5) (.op .sorted (.cons C_order_of_4 .nil)))
def C_order_of_6 : E := (.comp [7, 6] (.t [(.v 7), (.v 6)]) .val (.cons (.v 5) .nil) .nil (.elt (.v 6)))
@[simp] theorem nC_order_of_6 (i : Nat) : (C_order_of_6 = E.v i) = False := eq_false nofun
def S_order_of_7 : S := (.ret (.op .tupleOf (.cons C_order_of_6 .nil)))
def B_order_of_8 : Ss := (.cons S_order_of_1 (.cons S_order_of_3 (.cons S_order_of_5 (.cons S_order_of_7 .nil))))
def b_order_of : Ss := B_order_of_8
/-- 7 least_steps(edges, some, first, last); slots 0:edges 1:some 2:first 3:last 4:best 5:_ 6:k 7:source 8:target 9:own -/
def S_least_steps_1 : S := (.asg (.v 4) (.op .dic (.cons (.v 2) (.cons (.c (.int 0)) .nil))))
def S_least_steps_2 : S := (.par [7, 8] (.cons (.op .ix (.cons (.op .ix (.cons (.v 0) (.cons (.v 6) .nil))) (.cons (.c (.int 0)) .nil))) (.cons (.op .ix (.cons (.op .ix (.cons (.v 0) (.cons (.v 6) .nil))) (.cons (.c (.int 1)) .nil))) .nil)))
def Q_least_steps_3 : E := (.op .in_ (.cons (.v 7) (.cons (.v 4) .nil)))
def S_least_steps_4 : S := (.asg (.v 9) (.op .add (.cons (.op .ix (.cons (.v 4) (.cons (.v 7) .nil))) (.cons (.op .ix (.cons (.op .ix (.cons (.v 0) (.cons (.v 6) .nil))) (.cons (.c (.int 7)) .nil))) .nil))))
def Q_least_steps_5 : E := (.or (.op .nin (.cons (.v 8) (.cons (.v 4) .nil))) (.op .lt (.cons (.v 9) (.cons (.op .ix (.cons (.v 4) (.cons (.v 8) .nil))) .nil))))
def S_least_steps_6 : S := (.setix 4 (.v 8) (.v 9))
def B_least_steps_7 : Ss := (.cons S_least_steps_6 .nil)
def S_least_steps_8 : S := (.ife Q_least_steps_5 B_least_steps_7 .nil)
def B_least_steps_9 : Ss := (.cons S_least_steps_4 (.cons S_least_steps_8 .nil))
def S_least_steps_10 : S := (.ife Q_least_steps_3 B_least_steps_9 .nil)
def B_least_steps_11 : Ss := (.cons S_least_steps_2 (.cons S_least_steps_10 .nil))
def S_least_steps_12 : S := (.for (.v 6) .val (.cons (.v 1) .nil) B_least_steps_11 [6, 7, 8, 9])
def B_least_steps_13 : Ss := (.cons S_least_steps_12 .nil)
def S_least_steps_14 : S := (.for (.v 5) .range (.cons (.op .add (.cons (.op .len (.cons (.call 2 (.cons (.v 0) (.cons (.v 1) .nil))) .nil)) (.cons (.c (.int 1)) .nil))) .nil) B_least_steps_13 [5, 6, 7, 8, 9])
def S_least_steps_15 : S := (.ret (.op .get (.cons (.v 4) (.cons (.v 3) .nil))))
def B_least_steps_16 : Ss := (.cons S_least_steps_1 (.cons S_least_steps_14 (.cons S_least_steps_15 .nil)))
def b_least_steps : Ss := B_least_steps_16
/-- 8 entries_of(edges, every, ring); slots 0:edges 1:every 2:ring 3:inside 4:k -/
def C_entries_of_1 : E := (.comp [4] (.v 4) .val (.cons (.v 2) .nil) .nil (.elt (.op .ix (.cons (.op .ix (.cons (.v 0) (.cons (.v 4) .nil))) (.cons (.c (.int 0)) .nil)))))
@[simp] theorem nC_entries_of_1 (i : Nat) : (C_entries_of_1 = E.v i) = False := eq_false nofun
def S_entries_of_2 : S := (.asg (.v 3) C_entries_of_1)
def C_entries_of_3 : E := (.comp [4] (.v 4) .val (.cons (.v 1) .nil) (.cons (.and (.op .nin (.cons (.v 4) (.cons (.v 2) .nil))) (.op .in_ (.cons (.op .ix (.cons (.op .ix (.cons (.v 0) (.cons (.v 4) .nil))) (.cons (.c (.int 1)) .nil))) (.cons (.v 3) .nil)))) .nil) (.elt (.v 4)))
@[simp] theorem nC_entries_of_3 (i : Nat) : (C_entries_of_3 = E.v i) = False := eq_false nofun
def S_entries_of_4 : S := (.ret (.op .tupleOf (.cons C_entries_of_3 .nil)))
def B_entries_of_5 : Ss := (.cons S_entries_of_2 (.cons S_entries_of_4 .nil))
def b_entries_of : Ss := B_entries_of_5
/-- 9 is_on_ring(edges, some, k); slots 0:edges 1:some 2:k -/
def S_is_on_ring_1 : S := (.ret (.op .in_ (.cons (.op .ix (.cons (.op .ix (.cons (.v 0) (.cons (.v 2) .nil))) (.cons (.c (.int 0)) .nil))) (.cons (.call 0 (.cons (.v 0) (.cons (.v 1) (.cons (.op .tup (.cons (.op .ix (.cons (.op .ix (.cons (.v 0) (.cons (.v 2) .nil))) (.cons (.c (.int 1)) .nil))) .nil)) .nil)))) .nil))))
def B_is_on_ring_2 : Ss := (.cons S_is_on_ring_1 .nil)
def b_is_on_ring : Ss := B_is_on_ring_2
/-- 10 ruled_by(edges, some, first, place); slots 0:edges 1:some 2:first 3:place 4:reach 5:left 6:free 7:k 8:own -/
def S_ruled_by_1 : S := (.asg (.v 4) (.call 0 (.cons (.v 0) (.cons (.v 1) (.cons (.op .tup (.cons (.v 2) .nil)) .nil)))))
def Q_ruled_by_2 : E := (.op .eq (.cons (.v 3) (.cons (.v 2) .nil)))
def S_ruled_by_3 : S := (.ret (.v 4))
def B_ruled_by_4 : Ss := (.cons S_ruled_by_3 .nil)
def S_ruled_by_5 : S := (.ife Q_ruled_by_2 B_ruled_by_4 .nil)
def C_ruled_by_6 : E := (.comp [7] (.v 7) .val (.cons (.v 1) .nil) (.cons (.and (.op .ne (.cons (.op .ix (.cons (.op .ix (.cons (.v 0) (.cons (.v 7) .nil))) (.cons (.c (.int 0)) .nil))) (.cons (.v 3) .nil))) (.op .ne (.cons (.op .ix (.cons (.op .ix (.cons (.v 0) (.cons (.v 7) .nil))) (.cons (.c (.int 1)) .nil))) (.cons (.v 3) .nil)))) .nil) (.elt (.v 7)))
@[simp] theorem nC_ruled_by_6 (i : Nat) : (C_ruled_by_6 = E.v i) = False := eq_false nofun
def S_ruled_by_7 : S := (.asg (.v 5) C_ruled_by_6)
def S_ruled_by_8 : S := (.asg (.v 6) (.call 0 (.cons (.v 0) (.cons (.v 5) (.cons (.op .tup (.cons (.v 2) .nil)) .nil)))))
def C_ruled_by_9 : E := (.comp [8] (.v 8) .val (.cons (.v 4) .nil) (.cons (.op .nin (.cons (.v 8) (.cons (.v 6) .nil))) .nil) (.elt (.v 8)))
@[simp] theorem nC_ruled_by_9 (i : Nat) : (C_ruled_by_9 = E.v i) = False := eq_false nofun
def S_ruled_by_10 : S := (.ret (.op .tupleOf (.cons C_ruled_by_9 .nil)))
def B_ruled_by_11 : Ss := (.cons S_ruled_by_1 (.cons S_ruled_by_5 (.cons S_ruled_by_7 (.cons S_ruled_by_8 (.cons S_ruled_by_10 .nil)))))
def b_ruled_by : Ss := B_ruled_by_11
/-- 11 _law_draws(script, many); slots 0:script 1:many 2:draws 3:mixed 4:k 5:cell 6:rest 7:turn -/
def S_law_draws_1 : S := (.asg (.v 2) (.op .lst .nil))
def S_law_draws_2 : S := (.asg (.v 3) (.c (.int 7)))
def S_law_draws_3 : S := (.asg (.v 5) (.op .abs (.cons (.op .intOf (.cons (.op .ix (.cons (.v 0) (.cons (.v 4) .nil))) .nil)) .nil)))
def S_law_draws_4 : S := (.asg (.v 3) (.op .mod (.cons (.op .intOf (.cons (.op .add (.cons (.op .add (.cons (.op .mul (.cons (.v 3) (.cons (.c (.int 48271)) .nil))) (.cons (.op .mod (.cons (.v 5) (.cons (.c (.int 1000003)) .nil))) .nil))) (.cons (.v 4) .nil))) .nil)) (.cons (.c (.int 65537)) .nil))))
def S_law_draws_5 : S := (.asg (.v 6) (.c (.int 0)))
def Q_law_draws_6 : E := (.op .ge (.cons (.v 5) (.cons (.op .pow (.cons (.c (.int 10)) (.cons (.c (.int 18)) .nil))) .nil)))
def S_law_draws_7 : S := (.asg (.v 6) (.v 5))
def B_law_draws_8 : Ss := (.cons S_law_draws_7 .nil)
def S_law_draws_9 : S := (.app 2 (.op .mod (.cons (.op .intOf (.cons (.v 5) .nil)) (.cons (.c (.int 997)) .nil))))
def S_law_draws_10 : S := (.app 2 (.op .mod (.cons (.op .mod (.cons (.op .intOf (.cons (.op .add (.cons (.op .mul (.cons (.v 3) (.cons (.c (.int 69621)) .nil))) (.cons (.c (.int 5)) .nil))) .nil)) (.cons (.c (.int 65521)) .nil))) (.cons (.c (.int 997)) .nil))))
def B_law_draws_11 : Ss := (.cons S_law_draws_9 (.cons S_law_draws_10 .nil))
def S_law_draws_12 : S := (.ife Q_law_draws_6 B_law_draws_8 B_law_draws_11)
def Q_law_draws_13 : E := (.op .gt (.cons (.v 6) (.cons (.c (.int 0)) .nil)))
def S_law_draws_14 : S := (.app 2 (.op .mod (.cons (.op .intOf (.cons (.v 6) .nil)) (.cons (.c (.int 997)) .nil))))
def S_law_draws_15 : S := (.asg (.v 6) (.op .fdiv (.cons (.v 6) (.cons (.c (.int 997)) .nil))))
def B_law_draws_16 : Ss := (.cons S_law_draws_14 (.cons S_law_draws_15 .nil))
def S_law_draws_17 : S := (.ife Q_law_draws_13 B_law_draws_16 .nil)
def B_law_draws_18 : Ss := (.cons S_law_draws_17 .nil)
def S_law_draws_19 : S := (.for (.v 7) .range (.cons (.c (.int 60)) .nil) B_law_draws_18 [7])
def B_law_draws_20 : Ss := (.cons S_law_draws_3 (.cons S_law_draws_4 (.cons S_law_draws_5 (.cons S_law_draws_12 (.cons S_law_draws_19 .nil)))))
def S_law_draws_21 : S := (.for (.v 4) .range (.cons (.op .len (.cons (.v 0) .nil)) .nil) B_law_draws_20 [4, 5, 6, 7])
def S_law_draws_22 : S := (.asg (.v 3) (.op .mod (.cons (.op .intOf (.cons (.op .add (.cons (.op .add (.cons (.op .mul (.cons (.v 3) (.cons (.c (.int 16807)) .nil))) (.cons (.v 4) .nil))) (.cons (.c (.int 1)) .nil))) .nil)) (.cons (.c (.int 65537)) .nil))))
def S_law_draws_23 : S := (.app 2 (.op .mod (.cons (.op .intOf (.cons (.v 3) .nil)) (.cons (.c (.int 997)) .nil))))
def B_law_draws_24 : Ss := (.cons S_law_draws_22 (.cons S_law_draws_23 .nil))
def S_law_draws_25 : S := (.for (.v 4) .range (.cons (.v 1) .nil) B_law_draws_24 [4])
def S_law_draws_26 : S := (.ret (.op (.sl false true) (.cons (.v 2) (.cons (.v 1) .nil))))
def B_law_draws_27 : Ss := (.cons S_law_draws_1 (.cons S_law_draws_2 (.cons S_law_draws_21 (.cons S_law_draws_25 (.cons S_law_draws_26 .nil)))))
def b_law_draws : Ss := B_law_draws_27
/-- 12 _law_next(w, many); slots 0:w 1:many -/
def S_law_next_1 : S := (.augix 0 (.c (.str [97, 116])) .add (.c (.int 1)))
def Q_law_next_2 : E := (.op .gt (.cons (.op .ix (.cons (.v 0) (.cons (.c (.str [97, 116])) .nil))) (.cons (.op .len (.cons (.op .ix (.cons (.v 0) (.cons (.c (.str [100, 114, 97, 119, 115])) .nil))) .nil)) .nil)))
def S_law_next_3 : S := (.ret (.c (.int 0)))
def B_law_next_4 : Ss := (.cons S_law_next_3 .nil)
def S_law_next_5 : S := (.ife Q_law_next_2 B_law_next_4 .nil)
def S_law_next_6 : S := (.ret (.op .mod (.cons (.op .intOf (.cons (.op .ix (.cons (.op .ix (.cons (.v 0) (.cons (.c (.str [100, 114, 97, 119, 115])) .nil))) (.cons (.op .sub (.cons (.op .ix (.cons (.v 0) (.cons (.c (.str [97, 116])) .nil))) (.cons (.c (.int 1)) .nil))) .nil))) .nil)) (.cons (.v 1) .nil))))
def B_law_next_7 : Ss := (.cons S_law_next_1 (.cons S_law_next_5 (.cons S_law_next_6 .nil)))
def b_law_next : Ss := B_law_next_7
/-- 13 _law_pick(w, rows); slots 0:w 1:rows -/
def S_law_pick_1 : S := (.ret (.op .ix (.cons (.v 1) (.cons (.call 12 (.cons (.v 0) (.cons (.op .len (.cons (.v 1) .nil)) .nil))) .nil))))
def B_law_pick_2 : Ss := (.cons S_law_pick_1 .nil)
def b_law_pick : Ss := B_law_pick_2
/-- 14 _law_same(seen, due); slots 0:seen 1:due 2:waiting 3:one 4:other 5:keys 6:key 7:k -/
def S_law_same_1 : S := (.asg (.v 2) (.op .lst (.cons (.op .tup (.cons (.v 0) (.cons (.v 1) .nil))) .nil)))
def S_law_same_2 : S := (.asg (.t [(.v 3), (.v 4)]) (.pop 2))
def Q_law_same_3 : E := (.op (.isi .dict) (.cons (.v 4) .nil))
def C_law_same_4 : E := (.comp [6] (.v 6) .val (.cons (.v 4) .nil) (.cons (.op .nin (.cons (.v 6) (.cons (.v 3) .nil))) .nil) (.elt (.v 6)))
@[simp] theorem nC_law_same_4 (i : Nat) : (C_law_same_4 = E.v i) = False := eq_false nofun
def Q_law_same_5 : E := (.or (.not (.op (.isi .dict) (.cons (.v 3) .nil))) (.or (.op .ne (.cons (.op .len (.cons (.v 3) .nil)) (.cons (.op .len (.cons (.v 4) .nil)) .nil))) (.op .ne (.cons C_law_same_4 (.cons (.op .lst .nil) .nil)))))
def S_law_same_6 : S := (.ret (.c (.bl false)))
def B_law_same_7 : Ss := (.cons S_law_same_6 .nil)
def S_law_same_8 : S := (.ife Q_law_same_5 B_law_same_7 .nil)
def C_law_same_9 : E := (.comp [6] (.v 6) .val (.cons (.v 3) .nil) .nil (.elt (.op .tup (.cons (.v 6) (.cons (.v 6) .nil)))))
@[simp] theorem nC_law_same_9 (i : Nat) : (C_law_same_9 = E.v i) = False := eq_false nofun
def S_law_same_10 : S := (.asg (.v 5) (.op .dictOf (.cons C_law_same_9 .nil)))
def C_law_same_11 : E := (.comp [6] (.v 6) .val (.cons (.v 4) .nil) .nil (.elt (.op .tup (.cons (.op .ix (.cons (.v 3) (.cons (.v 6) .nil))) (.cons (.op .ix (.cons (.v 4) (.cons (.v 6) .nil))) .nil)))))
@[simp] theorem nC_law_same_11 (i : Nat) : (C_law_same_11 = E.v i) = False := eq_false nofun
def C_law_same_12 : E := (.comp [6] (.v 6) .val (.cons (.v 4) .nil) .nil (.elt (.op .tup (.cons (.op .ix (.cons (.v 5) (.cons (.v 6) .nil))) (.cons (.v 6) .nil)))))
@[simp] theorem nC_law_same_12 (i : Nat) : (C_law_same_12 = E.v i) = False := eq_false nofun
def S_law_same_13 : S := (.ext 2 (.op .add (.cons C_law_same_11 (.cons C_law_same_12 .nil))))
def B_law_same_14 : Ss := (.cons S_law_same_8 (.cons S_law_same_10 (.cons S_law_same_13 .nil)))
def Q_law_same_15 : E := (.or (.op (.isi .tuple) (.cons (.v 4) .nil)) (.op (.isi .list) (.cons (.v 4) .nil)))
def Q_law_same_16 : E := (.or (.op .ne (.cons (.op (.isi .tuple) (.cons (.v 3) .nil)) (.cons (.op (.isi .tuple) (.cons (.v 4) .nil)) .nil))) (.or (.op .ne (.cons (.op (.isi .list) (.cons (.v 3) .nil)) (.cons (.op (.isi .list) (.cons (.v 4) .nil)) .nil))) (.op .ne (.cons (.op .len (.cons (.v 3) .nil)) (.cons (.op .len (.cons (.v 4) .nil)) .nil)))))
def S_law_same_17 : S := (.ret (.c (.bl false)))
def B_law_same_18 : Ss := (.cons S_law_same_17 .nil)
def S_law_same_19 : S := (.ife Q_law_same_16 B_law_same_18 .nil)
def C_law_same_20 : E := (.comp [7] (.v 7) .range (.cons (.op .len (.cons (.v 4) .nil)) .nil) .nil (.elt (.op .tup (.cons (.op .ix (.cons (.v 3) (.cons (.v 7) .nil))) (.cons (.op .ix (.cons (.v 4) (.cons (.v 7) .nil))) .nil)))))
@[simp] theorem nC_law_same_20 (i : Nat) : (C_law_same_20 = E.v i) = False := eq_false nofun
def S_law_same_21 : S := (.ext 2 C_law_same_20)
def B_law_same_22 : Ss := (.cons S_law_same_19 (.cons S_law_same_21 .nil))
def Q_law_same_23 : E := (.or (.op .ne (.cons (.op (.isi .bool) (.cons (.v 3) .nil)) (.cons (.op (.isi .bool) (.cons (.v 4) .nil)) .nil))) (.or (.op .ne (.cons (.op (.isi .int) (.cons (.v 3) .nil)) (.cons (.op (.isi .int) (.cons (.v 4) .nil)) .nil))) (.or (.op .ne (.cons (.op (.isi .str) (.cons (.v 3) .nil)) (.cons (.op (.isi .str) (.cons (.v 4) .nil)) .nil))) (.op .ne (.cons (.v 3) (.cons (.v 4) .nil))))))
def S_law_same_24 : S := (.ret (.c (.bl false)))
def B_law_same_25 : Ss := (.cons S_law_same_24 .nil)
def S_law_same_26 : S := (.ife Q_law_same_23 B_law_same_25 .nil)
def B_law_same_27 : Ss := (.cons S_law_same_26 .nil)
def S_law_same_28 : S := (.ife Q_law_same_15 B_law_same_22 B_law_same_27)
def B_law_same_29 : Ss := (.cons S_law_same_28 .nil)
def S_law_same_30 : S := (.ife Q_law_same_3 B_law_same_14 B_law_same_29)
def B_law_same_31 : Ss := (.cons S_law_same_2 (.cons S_law_same_30 .nil))
def S_law_same_32 : S := (.whl (.op .ne (.cons (.v 2) (.cons (.op .lst .nil) .nil))) B_law_same_31 [3, 4, 5])
def S_law_same_33 : S := (.ret (.c (.bl true)))
def B_law_same_34 : Ss := (.cons S_law_same_1 (.cons S_law_same_32 (.cons S_law_same_33 .nil)))
def b_law_same : Ss := B_law_same_34
/-- 15 _law_behind(pairs, places); slots 0:pairs 1:places 2:found 3:turn 4:b 5:a -/
def S_law_behind_1 : S := (.asg (.v 2) (.op .listOf (.cons (.v 1) .nil)))
def C_law_behind_2 : E := (.comp [5, 4] (.t [(.v 5), (.v 4)]) .val (.cons (.v 0) .nil) (.cons (.and (.op .in_ (.cons (.v 5) (.cons (.v 2) .nil))) (.op .nin (.cons (.v 4) (.cons (.v 2) .nil)))) .nil) (.elt (.v 4)))
@[simp] theorem nC_law_behind_2 (i : Nat) : (C_law_behind_2 = E.v i) = False := eq_false nofun
def S_law_behind_3 : S := (.asg (.v 2) (.op .add (.cons (.v 2) (.cons C_law_behind_2 .nil))))
def B_law_behind_4 : Ss := (.cons S_law_behind_3 .nil)
def S_law_behind_5 : S := (.for (.v 3) .range (.cons (.op .add (.cons (.op .len (.cons (.v 0) .nil)) (.cons (.c (.int 1)) .nil))) .nil) B_law_behind_4 [3])
def S_law_behind_6 : S := (.ret (.op .sset (.cons (.v 2) .nil)))
def B_law_behind_7 : Ss := (.cons S_law_behind_1 (.cons S_law_behind_5 (.cons S_law_behind_6 .nil)))
def b_law_behind : Ss := B_law_behind_7
/-- 16 law(script); slots 0:script 1:w 2:turn 3:many 4:edges 5:k 6:some 7:pairs 8:turned 9:behind 10:place 11:other 12:on 13:rings 14:own 15:every 16:ring 17:places 18:first 19:order 20:best 21:step 22:last 23:free 24:b 25:a 26:n 27:pair -/
def S_law_1 : S := (.asg (.v 1) (.op .dic (.cons (.c (.str [100, 114, 97, 119, 115])) (.cons (.call 11 (.cons (.v 0) (.cons (.c (.int 90)) .nil))) (.cons (.c (.str [97, 116])) (.cons (.c (.int 0)) .nil))))))
def S_law_2 : S := (.par [3, 4] (.cons (.op .add (.cons (.c (.int 2)) (.cons (.call 12 (.cons (.v 1) (.cons (.c (.int 6)) .nil))) .nil))) (.cons (.op .lst .nil) .nil)))
def S_law_3 : S := (.app 4 (.op .tup (.cons (.call 12 (.cons (.v 1) (.cons (.v 3) .nil))) (.cons (.call 12 (.cons (.v 1) (.cons (.v 3) .nil))) (.cons (.op .tup .nil) (.cons (.c .non) (.cons (.op .tup .nil) (.cons (.op .tup (.cons (.c (.int 0)) (.cons (.op .tup .nil) .nil))) (.cons (.c .non) (.cons (.call 12 (.cons (.v 1) (.cons (.c (.int 4)) .nil))) .nil))))))))))
def B_law_4 : Ss := (.cons S_law_3 .nil)
def S_law_5 : S := (.for (.v 5) .range (.cons (.call 12 (.cons (.v 1) (.cons (.c (.int 11)) .nil))) .nil) B_law_4 [5])
def S_law_6 : S := (.asg (.v 4) (.op .tupleOf (.cons (.v 4) .nil)))
def C_law_7 : E := (.comp [5] (.v 5) .range (.cons (.op .len (.cons (.v 4) .nil)) .nil) (.cons (.op .gt (.cons (.call 12 (.cons (.v 1) (.cons (.c (.int 5)) .nil))) (.cons (.c (.int 0)) .nil))) .nil) (.elt (.v 5)))
@[simp] theorem nC_law_7 (i : Nat) : (C_law_7 = E.v i) = False := eq_false nofun
def S_law_8 : S := (.asg (.v 6) (.op .tupleOf (.cons C_law_7 .nil)))
def C_law_9 : E := (.comp [5] (.v 5) .val (.cons (.v 6) .nil) .nil (.elt (.op (.sl false true) (.cons (.op .ix (.cons (.v 4) (.cons (.v 5) .nil))) (.cons (.c (.int 2)) .nil)))))
@[simp] theorem nC_law_9 (i : Nat) : (C_law_9 = E.v i) = False := eq_false nofun
def S_law_10 : S := (.asg (.v 7) C_law_9)
def C_law_11 : E := (.comp [25, 24] (.t [(.v 25), (.v 24)]) .val (.cons (.v 7) .nil) .nil (.elt (.op .tup (.cons (.v 24) (.cons (.v 25) .nil)))))
@[simp] theorem nC_law_11 (i : Nat) : (C_law_11 = E.v i) = False := eq_false nofun
def S_law_12 : S := (.asg (.v 8) C_law_11)
def C_law_13 : E := (.comp [10] (.v 10) .range (.cons (.v 3) .nil) .nil (.elt (.op .tup (.cons (.v 10) (.cons (.call 15 (.cons (.v 7) (.cons (.op .lst (.cons (.v 10) .nil)) .nil))) .nil)))))
@[simp] theorem nC_law_13 (i : Nat) : (C_law_13 = E.v i) = False := eq_false nofun
def S_law_14 : S := (.asg (.v 9) (.op .dictOf (.cons C_law_13 .nil)))
def S_law_15 : S := (.asg (.v 11) (.call 12 (.cons (.v 1) (.cons (.v 3) .nil))))
def Q_law_16 : E := (.or (.not (.call 14 (.cons (.call 0 (.cons (.v 4) (.cons (.v 6) (.cons (.op .tup (.cons (.v 10) .nil)) .nil)))) (.cons (.op .tupleOf (.cons (.op .ix (.cons (.v 9) (.cons (.v 10) .nil))) .nil)) .nil)))) (.not (.call 14 (.cons (.call 1 (.cons (.v 4) (.cons (.v 6) (.cons (.op .tup (.cons (.v 10) .nil)) .nil)))) (.cons (.op .tupleOf (.cons (.call 15 (.cons (.v 8) (.cons (.op .lst (.cons (.v 10) .nil)) .nil))) .nil)) .nil)))))
def S_law_17 : S := (.ret (.c (.bl false)))
def B_law_18 : Ss := (.cons S_law_17 .nil)
def S_law_19 : S := (.ife Q_law_16 B_law_18 .nil)
def Q_law_20 : E := (.not (.call 14 (.cons (.call 0 (.cons (.v 4) (.cons (.v 6) (.cons (.op .tup (.cons (.v 10) (.cons (.v 11) .nil))) .nil)))) (.cons (.op .tupleOf (.cons (.op .sset (.cons (.op .add (.cons (.op .ix (.cons (.v 9) (.cons (.v 10) .nil))) (.cons (.op .ix (.cons (.v 9) (.cons (.v 11) .nil))) .nil))) .nil)) .nil)) .nil))))
def S_law_21 : S := (.ret (.c (.bl false)))
def B_law_22 : Ss := (.cons S_law_21 .nil)
def S_law_23 : S := (.ife Q_law_20 B_law_22 .nil)
def B_law_24 : Ss := (.cons S_law_15 (.cons S_law_19 (.cons S_law_23 .nil)))
def S_law_25 : S := (.for (.v 10) .range (.cons (.v 3) .nil) B_law_24 [10, 11])
def C_law_26 : E := (.comp [5] (.v 5) .val (.cons (.v 6) .nil) (.cons (.op .in_ (.cons (.op .ix (.cons (.op .ix (.cons (.v 4) (.cons (.v 5) .nil))) (.cons (.c (.int 0)) .nil))) (.cons (.op .ix (.cons (.v 9) (.cons (.op .ix (.cons (.op .ix (.cons (.v 4) (.cons (.v 5) .nil))) (.cons (.c (.int 1)) .nil))) .nil))) .nil))) .nil) (.elt (.v 5)))
@[simp] theorem nC_law_26 (i : Nat) : (C_law_26 = E.v i) = False := eq_false nofun
def S_law_27 : S := (.asg (.v 12) C_law_26)
def S_law_28 : S := (.asg (.v 13) (.op .lst .nil))
def C_law_29 : E := (.comp [26] (.v 26) .val (.cons (.v 12) .nil) (.cons (.and (.op .in_ (.cons (.op .ix (.cons (.op .ix (.cons (.v 4) (.cons (.v 26) .nil))) (.cons (.c (.int 0)) .nil))) (.cons (.op .ix (.cons (.v 9) (.cons (.op .ix (.cons (.op .ix (.cons (.v 4) (.cons (.v 5) .nil))) (.cons (.c (.int 0)) .nil))) .nil))) .nil))) (.op .in_ (.cons (.op .ix (.cons (.op .ix (.cons (.v 4) (.cons (.v 5) .nil))) (.cons (.c (.int 0)) .nil))) (.cons (.op .ix (.cons (.v 9) (.cons (.op .ix (.cons (.op .ix (.cons (.v 4) (.cons (.v 26) .nil))) (.cons (.c (.int 0)) .nil))) .nil))) .nil)))) .nil) (.elt (.v 26)))
@[simp] theorem nC_law_29 (i : Nat) : (C_law_29 = E.v i) = False := eq_false nofun
def S_law_30 : S := (.asg (.v 14) (.op .tupleOf (.cons C_law_29 .nil)))
def S_law_31 : S := (.asg (.v 13) (.op .add (.cons (.v 13) (.cons (.op .mulL (.cons (.op .lst (.cons (.v 14) .nil)) (.cons (.op .intOf (.cons (.op .nin (.cons (.v 14) (.cons (.v 13) .nil))) .nil)) .nil))) .nil))))
def B_law_32 : Ss := (.cons S_law_30 (.cons S_law_31 .nil))
def S_law_33 : S := (.for (.v 5) .val (.cons (.v 12) .nil) B_law_32 [5, 14])
def C_law_34 : E := (.comp [5] (.v 5) .val (.cons (.v 6) .nil) (.cons (.op .nin (.cons (.v 5) (.cons (.v 12) .nil))) .nil) (.elt (.v 5)))
@[simp] theorem nC_law_34 (i : Nat) : (C_law_34 = E.v i) = False := eq_false nofun
def Q_law_35 : E := (.or (.not (.call 14 (.cons (.call 3 (.cons (.v 4) (.cons (.v 6) .nil))) (.cons (.op .tupleOf (.cons (.op .sorted (.cons (.v 13) .nil)) .nil)) .nil)))) (.not (.call 14 (.cons (.call 5 (.cons (.v 4) (.cons (.v 6) .nil))) (.cons (.op .tupleOf (.cons C_law_34 .nil)) .nil)))))
def S_law_36 : S := (.ret (.c (.bl false)))
def B_law_37 : Ss := (.cons S_law_36 .nil)
def S_law_38 : S := (.ife Q_law_35 B_law_37 .nil)
def C_law_39 : E := (.comp [5] (.v 5) .val (.cons (.v 6) .nil) (.cons (.not (.call 14 (.cons (.call 9 (.cons (.v 4) (.cons (.v 6) (.cons (.v 5) .nil)))) (.cons (.op .in_ (.cons (.v 5) (.cons (.v 12) .nil))) .nil)))) .nil) (.elt (.v 5)))
@[simp] theorem nC_law_39 (i : Nat) : (C_law_39 = E.v i) = False := eq_false nofun
def Q_law_40 : E := (.op .ne (.cons C_law_39 (.cons (.op .lst .nil) .nil)))
def S_law_41 : S := (.ret (.c (.bl false)))
def B_law_42 : Ss := (.cons S_law_41 .nil)
def S_law_43 : S := (.ife Q_law_40 B_law_42 .nil)
def S_law_44 : S := (.asg (.v 15) (.op .tupRange (.cons (.op .len (.cons (.v 4) .nil)) .nil)))
def C_law_45 : E := (.comp [5] (.v 5) .val (.cons (.v 16) .nil) .nil (.elt (.op .ix (.cons (.op .ix (.cons (.v 4) (.cons (.v 5) .nil))) (.cons (.c (.int 0)) .nil)))))
@[simp] theorem nC_law_45 (i : Nat) : (C_law_45 = E.v i) = False := eq_false nofun
def S_law_46 : S := (.asg (.v 17) C_law_45)
def C_law_47 : E := (.comp [5] (.v 5) .val (.cons (.v 15) .nil) (.cons (.and (.op .nin (.cons (.v 5) (.cons (.v 16) .nil))) (.op .in_ (.cons (.op .ix (.cons (.op .ix (.cons (.v 4) (.cons (.v 5) .nil))) (.cons (.c (.int 1)) .nil))) (.cons (.v 17) .nil)))) .nil) (.elt (.v 5)))
@[simp] theorem nC_law_47 (i : Nat) : (C_law_47 = E.v i) = False := eq_false nofun
def Q_law_48 : E := (.not (.call 14 (.cons (.call 8 (.cons (.v 4) (.cons (.v 15) (.cons (.v 16) .nil)))) (.cons (.op .tupleOf (.cons C_law_47 .nil)) .nil))))
def S_law_49 : S := (.ret (.c (.bl false)))
def B_law_50 : Ss := (.cons S_law_49 .nil)
def S_law_51 : S := (.ife Q_law_48 B_law_50 .nil)
def B_law_52 : Ss := (.cons S_law_46 (.cons S_law_51 .nil))
def S_law_53 : S := (.for (.v 16) .val (.cons (.v 13) .nil) B_law_52 [16, 17])
def S_law_54 : S := (.asg (.v 18) (.call 12 (.cons (.v 1) (.cons (.v 3) .nil))))
def S_law_55 : S := (.asg (.v 19) (.call 6 (.cons (.v 4) (.cons (.v 6) (.cons (.v 18) .nil)))))
def C_law_56 : E := (.comp [5] (.v 5) .range2 (.cons (.c (.int 1)) (.cons (.op .len (.cons (.v 19) .nil)) .nil)) (.cons (.op .gtT (.cons (.op .tup (.cons (.op .sub (.cons (.c (.int 0)) (.cons (.op .len (.cons (.op .ix (.cons (.v 9) (.cons (.op .ix (.cons (.v 19) (.cons (.op .sub (.cons (.v 5) (.cons (.c (.int 1)) .nil))) .nil))) .nil))) .nil)) .nil))) (.cons (.op .ix (.cons (.v 19) (.cons (.op .sub (.cons (.v 5) (.cons (.c (.int 1)) .nil))) .nil))) .nil))) (.cons (.op .tup (.cons (.op .sub (.cons (.c (.int 0)) (.cons (.op .len (.cons (.op .ix (.cons (.v 9) (.cons (.op .ix (.cons (.v 19) (.cons (.v 5) .nil))) .nil))) .nil)) .nil))) (.cons (.op .ix (.cons (.v 19) (.cons (.v 5) .nil))) .nil))) .nil))) .nil) (.elt (.v 5)))
@[simp] theorem nC_law_56 (i : Nat) : (C_law_56 = E.v i) = False := eq_false nofun
def Q_law_57 : E := (.or (.op .ne (.cons (.op .sorted (.cons (.v 19) .nil)) (.cons (.op .ix (.cons (.v 9) (.cons (.v 18) .nil))) .nil))) (.op .ne (.cons C_law_56 (.cons (.op .lst .nil) .nil))))
def S_law_58 : S := (.ret (.c (.bl false)))
def B_law_59 : Ss := (.cons S_law_58 .nil)
def S_law_60 : S := (.ife Q_law_57 B_law_59 .nil)
def C_law_61 : E := (.comp [5] (.v 5) .val (.cons (.v 6) .nil) (.cons (.and (.op .nin (.cons (.v 5) (.cons (.v 12) .nil))) (.and (.op .in_ (.cons (.op .ix (.cons (.op .ix (.cons (.v 4) (.cons (.v 5) .nil))) (.cons (.c (.int 0)) .nil))) (.cons (.v 19) .nil))) (.op .ge (.cons (.op .index (.cons (.v 19) (.cons (.op .ix (.cons (.op .ix (.cons (.v 4) (.cons (.v 5) .nil))) (.cons (.c (.int 0)) .nil))) .nil))) (.cons (.op .index (.cons (.v 19) (.cons (.op .ix (.cons (.op .ix (.cons (.v 4) (.cons (.v 5) .nil))) (.cons (.c (.int 1)) .nil))) .nil))) .nil))))) .nil) (.elt (.v 5)))
@[simp] theorem nC_law_61 (i : Nat) : (C_law_61 = E.v i) = False := eq_false nofun
def Q_law_62 : E := (.op .ne (.cons C_law_61 (.cons (.op .lst .nil) .nil)))
def S_law_63 : S := (.ret (.c (.bl false)))
def B_law_64 : Ss := (.cons S_law_63 .nil)
def S_law_65 : S := (.ife Q_law_62 B_law_64 .nil)
def S_law_66 : S := (.asg (.v 20) (.op .dic (.cons (.v 18) (.cons (.c (.int 0)) .nil))))
def Q_law_67 : E := (.op .in_ (.cons (.op .ix (.cons (.op .ix (.cons (.v 4) (.cons (.v 5) .nil))) (.cons (.c (.int 0)) .nil))) (.cons (.v 20) .nil)))
def S_law_68 : S := (.asg (.v 14) (.op .add (.cons (.op .ix (.cons (.v 20) (.cons (.op .ix (.cons (.op .ix (.cons (.v 4) (.cons (.v 5) .nil))) (.cons (.c (.int 0)) .nil))) .nil))) (.cons (.op .ix (.cons (.op .ix (.cons (.v 4) (.cons (.v 5) .nil))) (.cons (.c (.int 7)) .nil))) .nil))))
def S_law_69 : S := (.setix 20 (.op .ix (.cons (.op .ix (.cons (.v 4) (.cons (.v 5) .nil))) (.cons (.c (.int 1)) .nil))) (.op .min (.cons (.v 14) (.cons (.op .get2 (.cons (.v 20) (.cons (.op .ix (.cons (.op .ix (.cons (.v 4) (.cons (.v 5) .nil))) (.cons (.c (.int 1)) .nil))) (.cons (.v 14) .nil)))) .nil))))
def B_law_70 : Ss := (.cons S_law_68 (.cons S_law_69 .nil))
def S_law_71 : S := (.ife Q_law_67 B_law_70 .nil)
def B_law_72 : Ss := (.cons S_law_71 .nil)
def S_law_73 : S := (.for (.v 5) .val (.cons (.v 6) .nil) B_law_72 [5, 14])
def B_law_74 : Ss := (.cons S_law_73 .nil)
def S_law_75 : S := (.for (.v 21) .range (.cons (.op .add (.cons (.v 3) (.cons (.c (.int 1)) .nil))) .nil) B_law_74 [5, 14, 21])
def Q_law_76 : E := (.not (.call 14 (.cons (.call 7 (.cons (.v 4) (.cons (.v 6) (.cons (.v 18) (.cons (.v 22) .nil))))) (.cons (.op .get (.cons (.v 20) (.cons (.v 22) .nil))) .nil))))
def S_law_77 : S := (.ret (.c (.bl false)))
def B_law_78 : Ss := (.cons S_law_77 .nil)
def S_law_79 : S := (.ife Q_law_76 B_law_78 .nil)
def C_law_80 : E := (.comp [27] (.v 27) .val (.cons (.v 7) .nil) (.cons (.op .nin (.cons (.v 22) (.cons (.v 27) .nil))) .nil) (.elt (.v 27)))
@[simp] theorem nC_law_80 (i : Nat) : (C_law_80 = E.v i) = False := eq_false nofun
def S_law_81 : S := (.asg (.v 23) (.ife (.op .ne (.cons (.v 22) (.cons (.v 18) .nil))) (.call 15 (.cons C_law_80 (.cons (.op .lst (.cons (.v 18) .nil)) .nil))) (.op .lst .nil)))
def C_law_82 : E := (.comp [14] (.v 14) .val (.cons (.op .ix (.cons (.v 9) (.cons (.v 18) .nil))) .nil) (.cons (.op .nin (.cons (.v 14) (.cons (.v 23) .nil))) .nil) (.elt (.v 14)))
@[simp] theorem nC_law_82 (i : Nat) : (C_law_82 = E.v i) = False := eq_false nofun
def Q_law_83 : E := (.not (.call 14 (.cons (.call 10 (.cons (.v 4) (.cons (.v 6) (.cons (.v 18) (.cons (.v 22) .nil))))) (.cons (.op .tupleOf (.cons C_law_82 .nil)) .nil))))
def S_law_84 : S := (.ret (.c (.bl false)))
def B_law_85 : Ss := (.cons S_law_84 .nil)
def S_law_86 : S := (.ife Q_law_83 B_law_85 .nil)
def B_law_87 : Ss := (.cons S_law_79 (.cons S_law_81 (.cons S_law_86 .nil)))
def S_law_88 : S := (.for (.v 22) .range (.cons (.v 3) .nil) B_law_87 [22, 23])
def B_law_89 : Ss := (.cons S_law_2 (.cons S_law_5 (.cons S_law_6 (.cons S_law_8 (.cons S_law_10 (.cons S_law_12 (.cons S_law_14 (.cons S_law_25 (.cons S_law_27 (.cons S_law_28 (.cons S_law_33 (.cons S_law_38 (.cons S_law_43 (.cons S_law_44 (.cons S_law_53 (.cons S_law_54 (.cons S_law_55 (.cons S_law_60 (.cons S_law_65 (.cons S_law_66 (.cons S_law_75 (.cons S_law_88 .nil))))))))))))))))))))))
def S_law_90 : S := (.for (.v 2) .range (.cons (.c (.int 3)) .nil) B_law_89 [2, 3, 4, 5, 6, 7, 8, 9, 10, 11, 12, 13, 14, 15, 16, 17, 18, 19, 20, 21, 22, 23])
def S_law_91 : S := (.ret (.c (.bl true)))
def B_law_92 : Ss := (.cons S_law_1 (.cons S_law_90 (.cons S_law_91 .nil)))
def b_law : Ss := B_law_92
def tbl : Nat → Option Fn
  | 0 => some ⟨3, 7, [false, false, false], b_goals_of⟩
  | 1 => some ⟨3, 7, [false, false, false], b_sources_of⟩
  | 2 => some ⟨2, 3, [false, false], b_places_of⟩
  | 3 => some ⟨2, 11, [false, false], b_rings_of⟩
  | 4 => some ⟨3, 5, [false, false, false], b_is_beside⟩
  | 5 => some ⟨2, 5, [false, false], b_off_rings⟩
  | 6 => some ⟨3, 8, [false, false, false], b_order_of⟩
  | 7 => some ⟨4, 10, [false, false, false, false], b_least_steps⟩
  | 8 => some ⟨3, 5, [false, false, false], b_entries_of⟩
  | 9 => some ⟨3, 3, [false, false, false], b_is_on_ring⟩
  | 10 => some ⟨4, 9, [false, false, false, false], b_ruled_by⟩
  | 11 => some ⟨2, 8, [false, false], b_law_draws⟩
  | 12 => some ⟨2, 2, [true, false], b_law_next⟩
  | 13 => some ⟨2, 2, [true, false], b_law_pick⟩
  | 14 => some ⟨2, 8, [false, false], b_law_same⟩
  | 15 => some ⟨2, 6, [false, false], b_law_behind⟩
  | 16 => some ⟨1, 28, [false], b_law⟩
  | _ => none
end Tk06
end
section
set_option Elab.async false
set_option linter.all false
set_option maxRecDepth 100000
set_option maxHeartbeats 8000000
namespace Tk06
open PySem PySem.Spec PyProof.Rows L2 RZ Pv

def topS (i : Nat) : Stmt := PySem.Challenge.pw_costsforetold_k06_whole_places_and_rings.main.body.getD i (.Pass ⟨0, 0, 0, 0⟩)
def nmT : List (Str × Nat) := [(("goals_of" : Str), 3), (("sources_of" : Str), 3), (("places_of" : Str), 2), (("rings_of" : Str), 2), (("is_beside" : Str), 3), (("off_rings" : Str), 2), (("order_of" : Str), 3), (("least_steps" : Str), 4), (("entries_of" : Str), 3), (("is_on_ring" : Str), 3), (("ruled_by" : Str), 4), (("_law_draws" : Str), 2), (("_law_next" : Str), 2), (("_law_pick" : Str), 2), (("_law_same" : Str), 2), (("_law_behind" : Str), 2), (("law" : Str), 1)]
def bsT : List Str := [("len" : Str), ("abs" : Str), ("max" : Str), ("min" : Str), ("sum" : Str), ("all" : Str), ("any" : Str), ("sorted" : Str), ("set" : Str), ("range" : Str), ("zip" : Str), ("isinstance" : Str), ("int" : Str), ("bool" : Str), ("str" : Str), ("tuple" : Str), ("list" : Str), ("dict" : Str), ("enumerate" : Str)]
def csT : List (Str × D) := []
section
variable {pr : Program} {w : World} {K : PySem.W.Frag} {mg : Str → Option Value} {base : Heap} {fa : Addr} {cdv : Value} {A : Around} {outer : List PySem.Env} {s : Shared} {H : Hp} {E : XK} {k : Nat}
abbrev s_goals_of : Stmt := topS 1
theorem sc_goals_of : FnScope [("edges" : Str), ("some" : Str), ("places" : Str), ("found" : Str), ("waiting" : Str), ("place" : Str), ("k" : Str)] [("edges" : Str), ("some" : Str), ("places" : Str)] (defScope s_goals_of) := ⟨rfl, rfl, rfl, by decide +kernel, rfl, by decide +kernel, by decide +kernel⟩
theorem d_goals_of (P : Pk (cxOf CX0 pr w K mg base [("edges" : Str), ("some" : Str), ("places" : Str), ("found" : Str), ("waiting" : Str), ("place" : Str), ("k" : Str)] "goals_of" (defScope s_goals_of) fa cdv A outer s H E).nox (mkC tbl k) k nmT bsT csT) : SnB (cxOf CX0 pr w K mg base [("edges" : Str), ("some" : Str), ("places" : Str), ("found" : Str), ("waiting" : Str), ("place" : Str), ("k" : Str)] "goals_of" (defScope s_goals_of) fa cdv A outer s H E).nox (mkC tbl k) (ixs [false, false, false]) (defBody s_goals_of) b_goals_of := (snB_cons (s_par P sn_dic0 (q_ty P 16 (cb_list P.calm) (SnA.cons (qv 2) SnA.nil)))
  (snB_cons (s_whl P PassesOwn.never (t_ne P (qv 4) (sn_lst SnA.nil)) (snB_cons (s_set P (sn_pop (pv 4)))
  (snB_cons (snS_ife (t_nin P (qv 5) (qv 3)) (snB_cons (s_setix P (pv 3) (qv 5) qb)
  (snB_cons (snS_ext (pv 4) (q_comp1 P [("k", 6)] (snIt_val (qv 1)) (fun s H D cl fp P => ⟨(g_name P 6), (snC_one (t_eq P (q_ix P (q_ix P (qv 0) (qv 6)) qi) (qv 5))), (q_ix P (q_ix P (qv 0) (qv 6)) qi)⟩)))
  snB_nil)) snB_nil)
  snB_nil)))
  (snB_cons (snS_ret (q_ty P 15 cb_tuple (SnA.cons (q_bi P 7 (cb_sorted P.calm (P.u 8 (by decide))) (SnA.cons (qv 3) SnA.nil)) SnA.nil)) (by intro i h; cases h))
  snB_nil)))
abbrev s_sources_of : Stmt := topS 2
theorem sc_sources_of : FnScope [("edges" : Str), ("some" : Str), ("places" : Str), ("found" : Str), ("waiting" : Str), ("place" : Str), ("k" : Str)] [("edges" : Str), ("some" : Str), ("places" : Str)] (defScope s_sources_of) := ⟨rfl, rfl, rfl, by decide +kernel, rfl, by decide +kernel, by decide +kernel⟩
theorem d_sources_of (P : Pk (cxOf CX0 pr w K mg base [("edges" : Str), ("some" : Str), ("places" : Str), ("found" : Str), ("waiting" : Str), ("place" : Str), ("k" : Str)] "sources_of" (defScope s_sources_of) fa cdv A outer s H E).nox (mkC tbl k) k nmT bsT csT) : SnB (cxOf CX0 pr w K mg base [("edges" : Str), ("some" : Str), ("places" : Str), ("found" : Str), ("waiting" : Str), ("place" : Str), ("k" : Str)] "sources_of" (defScope s_sources_of) fa cdv A outer s H E).nox (mkC tbl k) (ixs [false, false, false]) (defBody s_sources_of) b_sources_of := (snB_cons (s_par P sn_dic0 (q_ty P 16 (cb_list P.calm) (SnA.cons (qv 2) SnA.nil)))
  (snB_cons (s_whl P PassesOwn.never (t_ne P (qv 4) (sn_lst SnA.nil)) (snB_cons (s_set P (sn_pop (pv 4)))
  (snB_cons (snS_ife (t_nin P (qv 5) (qv 3)) (snB_cons (s_setix P (pv 3) (qv 5) qb)
  (snB_cons (snS_ext (pv 4) (q_comp1 P [("k", 6)] (snIt_val (qv 1)) (fun s H D cl fp P => ⟨(g_name P 6), (snC_one (t_eq P (q_ix P (q_ix P (qv 0) (qv 6)) qi) (qv 5))), (q_ix P (q_ix P (qv 0) (qv 6)) qi)⟩)))
  snB_nil)) snB_nil)
  snB_nil)))
  (snB_cons (snS_ret (q_ty P 15 cb_tuple (SnA.cons (q_bi P 7 (cb_sorted P.calm (P.u 8 (by decide))) (SnA.cons (qv 3) SnA.nil)) SnA.nil)) (by intro i h; cases h))
  snB_nil)))
abbrev s_places_of : Stmt := topS 3
theorem sc_places_of : FnScope [("edges" : Str), ("some" : Str), ("k" : Str)] [("edges" : Str), ("some" : Str)] (defScope s_places_of) := ⟨rfl, rfl, rfl, by decide +kernel, rfl, by decide +kernel, by decide +kernel⟩
theorem d_places_of (P : Pk (cxOf CX0 pr w K mg base [("edges" : Str), ("some" : Str), ("k" : Str)] "places_of" (defScope s_places_of) fa cdv A outer s H E).nox (mkC tbl k) k nmT bsT csT) : SnB (cxOf CX0 pr w K mg base [("edges" : Str), ("some" : Str), ("k" : Str)] "places_of" (defScope s_places_of) fa cdv A outer s H E).nox (mkC tbl k) (ixs [false, false]) (defBody s_places_of) b_places_of := (snB_cons (snS_ret (q_ty P 15 cb_tuple (SnA.cons (q_sset P 7 8 (sn_bin ob_add (q_comp1 P [("k", 2)] (snIt_val (qv 1)) (fun s H D cl fp P => ⟨(g_name P 2), snC_nil, (q_ix P (q_ix P (qv 0) (qv 2)) qi)⟩)) (q_comp1 P [("k", 2)] (snIt_val (qv 1)) (fun s H D cl fp P => ⟨(g_name P 2), snC_nil, (q_ix P (q_ix P (qv 0) (qv 2)) qi)⟩)))) SnA.nil)) (by intro i h; cases h))
  snB_nil)
abbrev s_rings_of : Stmt := topS 4
theorem sc_rings_of : FnScope [("edges" : Str), ("some" : Str), ("behind" : Str), ("found" : Str), ("met" : Str), ("k" : Str), ("source" : Str), ("target" : Str), ("own" : Str), ("n" : Str), ("place" : Str)] [("edges" : Str), ("some" : Str)] (defScope s_rings_of) := ⟨rfl, rfl, rfl, by decide +kernel, rfl, by decide +kernel, by decide +kernel⟩
theorem d_rings_of (P : Pk (cxOf CX0 pr w K mg base [("edges" : Str), ("some" : Str), ("behind" : Str), ("found" : Str), ("met" : Str), ("k" : Str), ("source" : Str), ("target" : Str), ("own" : Str), ("n" : Str), ("place" : Str)] "rings_of" (defScope s_rings_of) fa cdv A outer s H E).nox (mkC tbl k) k nmT bsT csT) : SnB (cxOf CX0 pr w K mg base [("edges" : Str), ("some" : Str), ("behind" : Str), ("found" : Str), ("met" : Str), ("k" : Str), ("source" : Str), ("target" : Str), ("own" : Str), ("n" : Str), ("place" : Str)] "rings_of" (defScope s_rings_of) fa cdv A outer s H E).nox (mkC tbl k) (ixs [false, false]) (defBody s_rings_of) b_rings_of := (snB_cons (s_set P (q_ty P 17 (cb_dict P.calm) (SnA.cons (q_comp1 P [("place", 10)] (snIt_val (q_call P 2 (SnI.val (qv 0) (SnI.val (qv 1) SnI.nil)))) (fun s H D cl fp P => ⟨(g_name P 10), snC_nil, (sn_tup (SnA.cons (qv 10) (SnA.cons (q_call P 0 (SnI.val (qv 0) (SnI.val (qv 1) (SnI.val (sn_tup (SnA.cons (qv 10) SnA.nil)) SnI.nil)))) SnA.nil)))⟩)) SnA.nil)))
  (snB_cons (s_par P (sn_lst SnA.nil) sn_dic0)
  (snB_cons (s_for P PassesOwn.never (snIt_val (qv 1)) (g_name P 5) (snB_cons (s_tup P (sn_tup (SnA.cons (q_ix P (q_ix P (qv 0) (qv 5)) qi) (SnA.cons (q_ix P (q_ix P (qv 0) (qv 5)) qi) SnA.nil))) (g_tup P (snGs_cons (g_name P 6) (snGs_cons (g_name P 7) snGs_nil))))
  (snB_cons (snS_ife (snW_and (t_nin P (qv 5) (qv 4)) (snW_and1 (t_in P (qv 6) (q_ix P (qv 2) (qv 7))))).tt (snB_cons (s_set P (q_ty P 15 cb_tuple (SnA.cons (q_comp1 P [("n", 9)] (snIt_val (qv 1)) (fun s H D cl fp P => ⟨(g_name P 9), (snC_one (snT_val (q_call P 4 (SnI.val (q_ix P (qv 0) (qv 9)) (SnI.val (qv 2) (SnI.val (qv 6) SnI.nil)))))), (qv 9)⟩)) SnA.nil)))
  (snB_cons (s_for P PassesOwn.never (snIt_val (qv 8)) (g_name P 9) (snB_cons (s_setix P (pv 4) (qv 9) qb)
  snB_nil))
  (snB_cons (snS_app (pv 3) (qv 8))
  snB_nil))) snB_nil)
  snB_nil)))
  (snB_cons (snS_ret (q_ty P 15 cb_tuple (SnA.cons (q_bi P 7 (cb_sorted P.calm (P.u 8 (by decide))) (SnA.cons (qv 3) SnA.nil)) SnA.nil)) (by intro i h; cases h))
  snB_nil))))
abbrev s_is_beside : Stmt := topS 5
theorem sc_is_beside : FnScope [("edge" : Str), ("behind" : Str), ("place" : Str), ("source" : Str), ("target" : Str)] [("edge" : Str), ("behind" : Str), ("place" : Str)] (defScope s_is_beside) := ⟨rfl, rfl, rfl, by decide +kernel, rfl, by decide +kernel, by decide +kernel⟩
theorem d_is_beside (P : Pk (cxOf CX0 pr w K mg base [("edge" : Str), ("behind" : Str), ("place" : Str), ("source" : Str), ("target" : Str)] "is_beside" (defScope s_is_beside) fa cdv A outer s H E).nox (mkC tbl k) k nmT bsT csT) : SnB (cxOf CX0 pr w K mg base [("edge" : Str), ("behind" : Str), ("place" : Str), ("source" : Str), ("target" : Str)] "is_beside" (defScope s_is_beside) fa cdv A outer s H E).nox (mkC tbl k) (ixs [false, false, false]) (defBody s_is_beside) b_is_beside := (snB_cons (s_par P (q_ix P (qv 0) qi) (q_ix P (qv 0) qi))
  (snB_cons (snS_ret (q_and (qand (q_in P (qv 3) (q_ix P (qv 1) (qv 2))) (sn_one (q_in P (qv 2) (q_ix P (qv 1) (qv 4)))))) (by intro i h; cases h))
  snB_nil))
abbrev s_off_rings : Stmt := topS 6
theorem sc_off_rings : FnScope [("edges" : Str), ("some" : Str), ("rings" : Str), ("k" : Str), ("ring" : Str)] [("edges" : Str), ("some" : Str)] (defScope s_off_rings) := ⟨rfl, rfl, rfl, by decide +kernel, rfl, by decide +kernel, by decide +kernel⟩
theorem d_off_rings (P : Pk (cxOf CX0 pr w K mg base [("edges" : Str), ("some" : Str), ("rings" : Str), ("k" : Str), ("ring" : Str)] "off_rings" (defScope s_off_rings) fa cdv A outer s H E).nox (mkC tbl k) k nmT bsT csT) : SnB (cxOf CX0 pr w K mg base [("edges" : Str), ("some" : Str), ("rings" : Str), ("k" : Str), ("ring" : Str)] "off_rings" (defScope s_off_rings) fa cdv A outer s H E).nox (mkC tbl k) (ixs [false, false]) (defBody s_off_rings) b_off_rings := (snB_cons (s_set P (q_call P 3 (SnI.val (qv 0) (SnI.val (qv 1) SnI.nil))))
  (snB_cons (snS_ret (q_ty P 15 cb_tuple (SnA.cons (q_comp1 P [("k", 3)] (snIt_val (qv 1)) (fun s H D cl fp P => ⟨(g_name P 3), (snC_one (snT_not (snT_val (q_bi P 6 (cb_any P.calm) (SnA.cons (q_comp1 P [("ring", 4)] (snIt_val (qv 2)) (fun s H D cl fp P => ⟨(g_name P 4), snC_nil, (q_in P (qv 3) (qv 4))⟩)) SnA.nil))))), (qv 3)⟩)) SnA.nil)) (by intro i h; cases h))
  snB_nil))
abbrev s_order_of : Stmt := topS 7
theorem sc_order_of : FnScope [("edges" : Str), ("some" : Str), ("first" : Str), ("reach" : Str), ("behind" : Str), ("rows" : Str), ("place" : Str), ("_" : Str)] [("edges" : Str), ("some" : Str), ("first" : Str)] (defScope s_order_of) := ⟨rfl, rfl, rfl, by decide +kernel, rfl, by decide +kernel, by decide +kernel⟩
theorem d_order_of (P : Pk (cxOf CX0 pr w K mg base [("edges" : Str), ("some" : Str), ("first" : Str), ("reach" : Str), ("behind" : Str), ("rows" : Str), ("place" : Str), ("_" : Str)] "order_of" (defScope s_order_of) fa cdv A outer s H E).nox (mkC tbl k) k nmT bsT csT) : SnB (cxOf CX0 pr w K mg base [("edges" : Str), ("some" : Str), ("first" : Str), ("reach" : Str), ("behind" : Str), ("rows" : Str), ("place" : Str), ("_" : Str)] "order_of" (defScope s_order_of) fa cdv A outer s H E).nox (mkC tbl k) (ixs [false, false, false]) (defBody s_order_of) b_order_of := (snB_cons (s_set P (q_call P 0 (SnI.val (qv 0) (SnI.val (qv 1) (SnI.val (sn_tup (SnA.cons (qv 2) SnA.nil)) SnI.nil)))))
  (snB_cons (s_set P (q_ty P 17 (cb_dict P.calm) (SnA.cons (q_comp1 P [("place", 6)] (snIt_val (qv 3)) (fun s H D cl fp P => ⟨(g_name P 6), snC_nil, (sn_tup (SnA.cons (qv 6) (SnA.cons (q_call P 0 (SnI.val (qv 0) (SnI.val (qv 1) (SnI.val (sn_tup (SnA.cons (qv 6) SnA.nil)) SnI.nil)))) SnA.nil)))⟩)) SnA.nil)))
  (snB_cons (s_set P (q_bi P 7 (cb_sorted P.calm (P.u 8 (by decide))) (SnA.cons (q_comp1 P [("place", 6)] (snIt_val (qv 3)) (fun s H D cl fp P => ⟨(g_name P 6), snC_nil, (sn_tup (SnA.cons (sn_neg (q_bi P 0 cb_len (SnA.cons (q_ix P (qv 4) (qv 6)) SnA.nil))) (SnA.cons (qv 6) SnA.nil)))⟩)) SnA.nil)))
  (snB_cons (snS_ret (q_ty P 15 cb_tuple (SnA.cons (q_comp1 P [("_", 7), ("place", 6)] (snIt_val (qv 5)) (fun s H D cl fp P => ⟨(g_tup P (snGs_cons (g_name P 7) (snGs_cons (g_name P 6) snGs_nil))), snC_nil, (qv 6)⟩)) SnA.nil)) (by intro i h; cases h))
  snB_nil))))
abbrev s_least_steps : Stmt := topS 8
theorem sc_least_steps : FnScope [("edges" : Str), ("some" : Str), ("first" : Str), ("last" : Str), ("best" : Str), ("_" : Str), ("k" : Str), ("source" : Str), ("target" : Str), ("own" : Str)] [("edges" : Str), ("some" : Str), ("first" : Str), ("last" : Str)] (defScope s_least_steps) := ⟨rfl, rfl, rfl, by decide +kernel, rfl, by decide +kernel, by decide +kernel⟩
theorem d_least_steps (P : Pk (cxOf CX0 pr w K mg base [("edges" : Str), ("some" : Str), ("first" : Str), ("last" : Str), ("best" : Str), ("_" : Str), ("k" : Str), ("source" : Str), ("target" : Str), ("own" : Str)] "least_steps" (defScope s_least_steps) fa cdv A outer s H E).nox (mkC tbl k) k nmT bsT csT) : SnB (cxOf CX0 pr w K mg base [("edges" : Str), ("some" : Str), ("first" : Str), ("last" : Str), ("best" : Str), ("_" : Str), ("k" : Str), ("source" : Str), ("target" : Str), ("own" : Str)] "least_steps" (defScope s_least_steps) fa cdv A outer s H E).nox (mkC tbl k) (ixs [false, false, false, false]) (defBody s_least_steps) b_least_steps := (snB_cons (s_set P (sn_dic (snP_cons (qv 2) qi snP_nil) rfl rfl (by simp) (by decide)))
  (snB_cons (s_for P PassesOwn.never (q_range1 P 9 (SnA.cons (sn_bin ob_add (q_bi P 0 cb_len (SnA.cons (q_call P 2 (SnI.val (qv 0) (SnI.val (qv 1) SnI.nil))) SnA.nil)) qi) SnA.nil)) (g_name P 5) (snB_cons (s_for P PassesOwn.never (snIt_val (qv 1)) (g_name P 6) (snB_cons (s_par P (q_ix P (q_ix P (qv 0) (qv 6)) qi) (q_ix P (q_ix P (qv 0) (qv 6)) qi))
  (snB_cons (snS_ife (t_in P (qv 7) (qv 4)) (snB_cons (s_set P (sn_bin ob_add (q_ix P (qv 4) (qv 7)) (q_ix P (q_ix P (qv 0) (qv 6)) qi)))
  (snB_cons (snS_ife (snW_or (t_nin P (qv 8) (qv 4)) (snW_or1 (t_lt P (qv 9) (q_ix P (qv 4) (qv 8))))).tt (snB_cons (s_setix P (pv 4) (qv 8) (qv 9))
  snB_nil) snB_nil)
  snB_nil)) snB_nil)
  snB_nil)))
  snB_nil))
  (snB_cons (snS_ret (q_get P (qv 4) (qv 3)) (by intro i h; cases h))
  snB_nil)))
abbrev s_entries_of : Stmt := topS 9
theorem sc_entries_of : FnScope [("edges" : Str), ("every" : Str), ("ring" : Str), ("inside" : Str), ("k" : Str)] [("edges" : Str), ("every" : Str), ("ring" : Str)] (defScope s_entries_of) := ⟨rfl, rfl, rfl, by decide +kernel, rfl, by decide +kernel, by decide +kernel⟩
theorem d_entries_of (P : Pk (cxOf CX0 pr w K mg base [("edges" : Str), ("every" : Str), ("ring" : Str), ("inside" : Str), ("k" : Str)] "entries_of" (defScope s_entries_of) fa cdv A outer s H E).nox (mkC tbl k) k nmT bsT csT) : SnB (cxOf CX0 pr w K mg base [("edges" : Str), ("every" : Str), ("ring" : Str), ("inside" : Str), ("k" : Str)] "entries_of" (defScope s_entries_of) fa cdv A outer s H E).nox (mkC tbl k) (ixs [false, false, false]) (defBody s_entries_of) b_entries_of := (snB_cons (s_set P (q_comp1 P [("k", 4)] (snIt_val (qv 2)) (fun s H D cl fp P => ⟨(g_name P 4), snC_nil, (q_ix P (q_ix P (qv 0) (qv 4)) qi)⟩)))
  (snB_cons (snS_ret (q_ty P 15 cb_tuple (SnA.cons (q_comp1 P [("k", 4)] (snIt_val (qv 1)) (fun s H D cl fp P => ⟨(g_name P 4), (snC_one (snW_and (t_nin P (qv 4) (qv 2)) (snW_and1 (t_in P (q_ix P (q_ix P (qv 0) (qv 4)) qi) (qv 3)))).tt), (qv 4)⟩)) SnA.nil)) (by intro i h; cases h))
  snB_nil))
abbrev s_is_on_ring : Stmt := topS 10
theorem sc_is_on_ring : FnScope [("edges" : Str), ("some" : Str), ("k" : Str)] [("edges" : Str), ("some" : Str), ("k" : Str)] (defScope s_is_on_ring) := ⟨rfl, rfl, rfl, by decide +kernel, rfl, by decide +kernel, by decide +kernel⟩
theorem d_is_on_ring (P : Pk (cxOf CX0 pr w K mg base [("edges" : Str), ("some" : Str), ("k" : Str)] "is_on_ring" (defScope s_is_on_ring) fa cdv A outer s H E).nox (mkC tbl k) k nmT bsT csT) : SnB (cxOf CX0 pr w K mg base [("edges" : Str), ("some" : Str), ("k" : Str)] "is_on_ring" (defScope s_is_on_ring) fa cdv A outer s H E).nox (mkC tbl k) (ixs [false, false, false]) (defBody s_is_on_ring) b_is_on_ring := (snB_cons (snS_ret (q_in P (q_ix P (q_ix P (qv 0) (qv 2)) qi) (q_call P 0 (SnI.val (qv 0) (SnI.val (qv 1) (SnI.val (sn_tup (SnA.cons (q_ix P (q_ix P (qv 0) (qv 2)) qi) SnA.nil)) SnI.nil))))) (by intro i h; cases h))
  snB_nil)
abbrev s_ruled_by : Stmt := topS 11
theorem sc_ruled_by : FnScope [("edges" : Str), ("some" : Str), ("first" : Str), ("place" : Str), ("reach" : Str), ("left" : Str), ("free" : Str), ("k" : Str), ("own" : Str)] [("edges" : Str), ("some" : Str), ("first" : Str), ("place" : Str)] (defScope s_ruled_by) := ⟨rfl, rfl, rfl, by decide +kernel, rfl, by decide +kernel, by decide +kernel⟩
theorem d_ruled_by (P : Pk (cxOf CX0 pr w K mg base [("edges" : Str), ("some" : Str), ("first" : Str), ("place" : Str), ("reach" : Str), ("left" : Str), ("free" : Str), ("k" : Str), ("own" : Str)] "ruled_by" (defScope s_ruled_by) fa cdv A outer s H E).nox (mkC tbl k) k nmT bsT csT) : SnB (cxOf CX0 pr w K mg base [("edges" : Str), ("some" : Str), ("first" : Str), ("place" : Str), ("reach" : Str), ("left" : Str), ("free" : Str), ("k" : Str), ("own" : Str)] "ruled_by" (defScope s_ruled_by) fa cdv A outer s H E).nox (mkC tbl k) (ixs [false, false, false, false]) (defBody s_ruled_by) b_ruled_by := (snB_cons (s_set P (q_call P 0 (SnI.val (qv 0) (SnI.val (qv 1) (SnI.val (sn_tup (SnA.cons (qv 2) SnA.nil)) SnI.nil)))))
  (snB_cons (snS_ife (t_eq P (qv 3) (qv 2)) (snB_cons (snS_retV (pv 4))
  snB_nil) snB_nil)
  (snB_cons (s_comp1 P [("k", 7)] (snIt_val (qv 1)) (fun s H D cl fp P => ⟨(g_name P 7), (snC_one (snW_and (t_ne P (q_ix P (q_ix P (qv 0) (qv 7)) qi) (qv 3)) (snW_and1 (t_ne P (q_ix P (q_ix P (qv 0) (qv 7)) qi) (qv 3)))).tt), (qv 7)⟩))
  (snB_cons (s_set P (q_call P 0 (SnI.val (qv 0) (SnI.val (qv 5) (SnI.val (sn_tup (SnA.cons (qv 2) SnA.nil)) SnI.nil)))))
  (snB_cons (snS_ret (q_ty P 15 cb_tuple (SnA.cons (q_comp1 P [("own", 8)] (snIt_val (qv 4)) (fun s H D cl fp P => ⟨(g_name P 8), (snC_one (t_nin P (qv 8) (qv 6))), (qv 8)⟩)) SnA.nil)) (by intro i h; cases h))
  snB_nil)))))
abbrev s_law_draws : Stmt := topS 13
theorem sc_law_draws : FnScope [("script" : Str), ("many" : Str), ("draws" : Str), ("mixed" : Str), ("k" : Str), ("cell" : Str), ("rest" : Str), ("turn" : Str)] [("script" : Str), ("many" : Str)] (defScope s_law_draws) := ⟨rfl, rfl, rfl, by decide +kernel, rfl, by decide +kernel, by decide +kernel⟩
theorem d_law_draws (P : Pk (cxOf CX0 pr w K mg base [("script" : Str), ("many" : Str), ("draws" : Str), ("mixed" : Str), ("k" : Str), ("cell" : Str), ("rest" : Str), ("turn" : Str)] "_law_draws" (defScope s_law_draws) fa cdv A outer s H E).nox (mkC tbl k) k nmT bsT csT) : SnB (cxOf CX0 pr w K mg base [("script" : Str), ("many" : Str), ("draws" : Str), ("mixed" : Str), ("k" : Str), ("cell" : Str), ("rest" : Str), ("turn" : Str)] "_law_draws" (defScope s_law_draws) fa cdv A outer s H E).nox (mkC tbl k) (ixs [false, false]) (defBody s_law_draws) b_law_draws := (snB_cons (s_set P (sn_lst SnA.nil))
  (snB_cons (s_set P qi)
  (snB_cons (s_for P PassesOwn.never (q_range1 P 9 (SnA.cons (q_bi P 0 cb_len (SnA.cons (qv 0) SnA.nil)) SnA.nil)) (g_name P 4) (snB_cons (s_set P (q_bi P 1 cb_abs (SnA.cons (q_ty P 12 cb_int (SnA.cons (q_ix P (qv 0) (qv 4)) SnA.nil)) SnA.nil)))
  (snB_cons (s_set P (sn_bin ob_mod (q_ty P 12 cb_int (SnA.cons (sn_bin ob_add (sn_bin ob_add (sn_bin ob_mul (qv 3) qi) (sn_bin ob_mod (qv 5) qi)) (qv 4)) SnA.nil)) qi))
  (snB_cons (s_set P qi)
  (snB_cons (snS_ife (t_ge P (qv 5) (sn_bin ob_pow qi qi)) (snB_cons (s_set P (qv 5))
  snB_nil) (snB_cons (snS_app (pv 2) (sn_bin ob_mod (q_ty P 12 cb_int (SnA.cons (qv 5) SnA.nil)) qi))
  (snB_cons (snS_app (pv 2) (sn_bin ob_mod (sn_bin ob_mod (q_ty P 12 cb_int (SnA.cons (sn_bin ob_add (sn_bin ob_mul (qv 3) qi) qi) SnA.nil)) qi) qi))
  snB_nil)))
  (snB_cons (s_for P PassesOwn.never (q_range1 P 9 (SnA.cons qi SnA.nil)) (g_name P 7) (snB_cons (snS_ife (t_gt P (qv 6) qi) (snB_cons (snS_app (pv 2) (sn_bin ob_mod (q_ty P 12 cb_int (SnA.cons (qv 6) SnA.nil)) qi))
  (snB_cons (s_set P (sn_bin ob_fdiv (qv 6) qi))
  snB_nil)) snB_nil)
  snB_nil))
  snB_nil))))))
  (snB_cons (s_for P PassesOwn.never (q_range1 P 9 (SnA.cons (qv 1) SnA.nil)) (g_name P 4) (snB_cons (s_set P (sn_bin ob_mod (q_ty P 12 cb_int (SnA.cons (sn_bin ob_add (sn_bin ob_add (sn_bin ob_mul (qv 3) qi) (qv 4)) qi) SnA.nil)) qi))
  (snB_cons (snS_app (pv 2) (sn_bin ob_mod (q_ty P 12 cb_int (SnA.cons (qv 3) SnA.nil)) qi))
  snB_nil)))
  (snB_cons (snS_ret (sn_sl_hi (qv 2) (qv 1)) (by intro i h; cases h))
  snB_nil)))))
abbrev s_law_next : Stmt := topS 14
theorem sc_law_next : FnScope [("w" : Str), ("many" : Str)] [("w" : Str), ("many" : Str)] (defScope s_law_next) := ⟨rfl, rfl, rfl, by decide +kernel, rfl, by decide +kernel, by decide +kernel⟩
theorem d_law_next (P : Pk (cxOf CX0 pr w K mg base [("w" : Str), ("many" : Str)] "_law_next" (defScope s_law_next) fa cdv A outer s H E).nox (mkC tbl k) k nmT bsT csT) : SnB (cxOf CX0 pr w K mg base [("w" : Str), ("many" : Str)] "_law_next" (defScope s_law_next) fa cdv A outer s H E).nox (mkC tbl k) (ixs [true, false]) (defBody s_law_next) b_law_next := (snB_cons (s_augix P ip_addF (pv 0) qs qi)
  (snB_cons (snS_ife (t_gt P (q_ix P (qv 0) qs) (q_bi P 0 cb_len (SnA.cons (q_ix P (qv 0) qs) SnA.nil))) (snB_cons (snS_ret qi (by intro i h; cases h))
  snB_nil) snB_nil)
  (snB_cons (snS_ret (sn_bin ob_mod (q_ty P 12 cb_int (SnA.cons (q_ix P (q_ix P (qv 0) qs) (sn_bin ob_sub (q_ix P (qv 0) qs) qi)) SnA.nil)) (qv 1)) (by intro i h; cases h))
  snB_nil)))
abbrev s_law_pick : Stmt := topS 15
theorem sc_law_pick : FnScope [("w" : Str), ("rows" : Str)] [("w" : Str), ("rows" : Str)] (defScope s_law_pick) := ⟨rfl, rfl, rfl, by decide +kernel, rfl, by decide +kernel, by decide +kernel⟩
theorem d_law_pick (P : Pk (cxOf CX0 pr w K mg base [("w" : Str), ("rows" : Str)] "_law_pick" (defScope s_law_pick) fa cdv A outer s H E).nox (mkC tbl k) k nmT bsT csT) : SnB (cxOf CX0 pr w K mg base [("w" : Str), ("rows" : Str)] "_law_pick" (defScope s_law_pick) fa cdv A outer s H E).nox (mkC tbl k) (ixs [true, false]) (defBody s_law_pick) b_law_pick := (snB_cons (snS_ret (q_ix P (qv 1) (q_call P 12 (SnI.io (pv 0) (SnI.val (q_bi P 0 cb_len (SnA.cons (qv 1) SnA.nil)) SnI.nil)))) (by intro i h; cases h))
  snB_nil)
abbrev s_law_same : Stmt := topS 16
theorem sc_law_same : FnScope [("seen" : Str), ("due" : Str), ("waiting" : Str), ("one" : Str), ("other" : Str), ("keys" : Str), ("key" : Str), ("k" : Str)] [("seen" : Str), ("due" : Str)] (defScope s_law_same) := ⟨rfl, rfl, rfl, by decide +kernel, rfl, by decide +kernel, by decide +kernel⟩
theorem d_law_same (P : Pk (cxOf CX0 pr w K mg base [("seen" : Str), ("due" : Str), ("waiting" : Str), ("one" : Str), ("other" : Str), ("keys" : Str), ("key" : Str), ("k" : Str)] "_law_same" (defScope s_law_same) fa cdv A outer s H E).nox (mkC tbl k) k nmT bsT csT) : SnB (cxOf CX0 pr w K mg base [("seen" : Str), ("due" : Str), ("waiting" : Str), ("one" : Str), ("other" : Str), ("keys" : Str), ("key" : Str), ("k" : Str)] "_law_same" (defScope s_law_same) fa cdv A outer s H E).nox (mkC tbl k) (ixs [false, false]) (defBody s_law_same) b_law_same := (snB_cons (s_set P (sn_lst (SnA.cons (sn_tup (SnA.cons (qv 0) (SnA.cons (qv 1) SnA.nil))) SnA.nil)))
  (snB_cons (s_whl P PassesOwn.never (t_ne P (qv 2) (sn_lst SnA.nil)) (snB_cons (s_tup P (sn_pop (pv 2)) (g_tup P (snGs_cons (g_name P 3) (snGs_cons (g_name P 4) snGs_nil))))
  (snB_cons (snS_ife (snT_val (q_isi P 11 17 (qv 4))) (snB_cons (snS_ife (snW_or (snT_not (snT_val (q_isi P 11 17 (qv 3)))) (snW_or (t_ne P (q_bi P 0 cb_len (SnA.cons (qv 3) SnA.nil)) (q_bi P 0 cb_len (SnA.cons (qv 4) SnA.nil))) (snW_or1 (t_ne P (q_comp1 P [("key", 6)] (snIt_val (qv 4)) (fun s H D cl fp P => ⟨(g_name P 6), (snC_one (t_nin P (qv 6) (qv 3))), (qv 6)⟩)) (sn_lst SnA.nil))))).tt (snB_cons (snS_ret qb (by intro i h; cases h))
  snB_nil) snB_nil)
  (snB_cons (s_set P (q_ty P 17 (cb_dict P.calm) (SnA.cons (q_comp1 P [("key", 6)] (snIt_val (qv 3)) (fun s H D cl fp P => ⟨(g_name P 6), snC_nil, (sn_tup (SnA.cons (qv 6) (SnA.cons (qv 6) SnA.nil)))⟩)) SnA.nil)))
  (snB_cons (snS_ext (pv 2) (sn_bin ob_add (q_comp1 P [("key", 6)] (snIt_val (qv 4)) (fun s H D cl fp P => ⟨(g_name P 6), snC_nil, (sn_tup (SnA.cons (q_ix P (qv 3) (qv 6)) (SnA.cons (q_ix P (qv 4) (qv 6)) SnA.nil)))⟩)) (q_comp1 P [("key", 6)] (snIt_val (qv 4)) (fun s H D cl fp P => ⟨(g_name P 6), snC_nil, (sn_tup (SnA.cons (q_ix P (qv 5) (qv 6)) (SnA.cons (qv 6) SnA.nil)))⟩))))
  snB_nil))) (snB_cons (snS_ife (snW_or (snT_val (q_isi P 11 15 (qv 4))) (snW_or1 (snT_val (q_isi P 11 16 (qv 4))))).tt (snB_cons (snS_ife (snW_or (t_ne P (q_isi P 11 15 (qv 3)) (q_isi P 11 15 (qv 4))) (snW_or (t_ne P (q_isi P 11 16 (qv 3)) (q_isi P 11 16 (qv 4))) (snW_or1 (t_ne P (q_bi P 0 cb_len (SnA.cons (qv 3) SnA.nil)) (q_bi P 0 cb_len (SnA.cons (qv 4) SnA.nil)))))).tt (snB_cons (snS_ret qb (by intro i h; cases h))
  snB_nil) snB_nil)
  (snB_cons (snS_ext (pv 2) (q_comp1 P [("k", 7)] (q_range1 P 9 (SnA.cons (q_bi P 0 cb_len (SnA.cons (qv 4) SnA.nil)) SnA.nil)) (fun s H D cl fp P => ⟨(g_name P 7), snC_nil, (sn_tup (SnA.cons (q_ix P (qv 3) (qv 7)) (SnA.cons (q_ix P (qv 4) (qv 7)) SnA.nil)))⟩)))
  snB_nil)) (snB_cons (snS_ife (snW_or (t_ne P (q_isi P 11 13 (qv 3)) (q_isi P 11 13 (qv 4))) (snW_or (t_ne P (q_isi P 11 12 (qv 3)) (q_isi P 11 12 (qv 4))) (snW_or (t_ne P (q_isi P 11 14 (qv 3)) (q_isi P 11 14 (qv 4))) (snW_or1 (t_ne P (qv 3) (qv 4)))))).tt (snB_cons (snS_ret qb (by intro i h; cases h))
  snB_nil) snB_nil)
  snB_nil))
  snB_nil))
  snB_nil)))
  (snB_cons (snS_ret qb (by intro i h; cases h))
  snB_nil)))
abbrev s_law_behind : Stmt := topS 17
theorem sc_law_behind : FnScope [("pairs" : Str), ("places" : Str), ("found" : Str), ("turn" : Str), ("b" : Str), ("a" : Str)] [("pairs" : Str), ("places" : Str)] (defScope s_law_behind) := ⟨rfl, rfl, rfl, by decide +kernel, rfl, by decide +kernel, by decide +kernel⟩
theorem d_law_behind (P : Pk (cxOf CX0 pr w K mg base [("pairs" : Str), ("places" : Str), ("found" : Str), ("turn" : Str), ("b" : Str), ("a" : Str)] "_law_behind" (defScope s_law_behind) fa cdv A outer s H E).nox (mkC tbl k) k nmT bsT csT) : SnB (cxOf CX0 pr w K mg base [("pairs" : Str), ("places" : Str), ("found" : Str), ("turn" : Str), ("b" : Str), ("a" : Str)] "_law_behind" (defScope s_law_behind) fa cdv A outer s H E).nox (mkC tbl k) (ixs [false, false]) (defBody s_law_behind) b_law_behind := (snB_cons (s_set P (q_ty P 16 (cb_list P.calm) (SnA.cons (qv 1) SnA.nil)))
  (snB_cons (s_for P PassesOwn.never (q_range1 P 9 (SnA.cons (sn_bin ob_add (q_bi P 0 cb_len (SnA.cons (qv 0) SnA.nil)) qi) SnA.nil)) (g_name P 3) (snB_cons (s_set P (sn_bin ob_add (qv 2) (q_comp1 P [("a", 5), ("b", 4)] (snIt_val (qv 0)) (fun s H D cl fp P => ⟨(g_tup P (snGs_cons (g_name P 5) (snGs_cons (g_name P 4) snGs_nil))), (snC_one (snW_and (t_in P (qv 5) (qv 2)) (snW_and1 (t_nin P (qv 4) (qv 2)))).tt), (qv 4)⟩))))
  snB_nil))
  (snB_cons (snS_ret (q_sset P 7 8 (qv 2)) (by intro i h; cases h))
  snB_nil)))
abbrev s_law : Stmt := topS 18
theorem sc_law : FnScope [("script" : Str), ("w" : Str), ("turn" : Str), ("many" : Str), ("edges" : Str), ("k" : Str), ("some" : Str), ("pairs" : Str), ("turned" : Str), ("behind" : Str), ("place" : Str), ("other" : Str), ("on" : Str), ("rings" : Str), ("own" : Str), ("every" : Str), ("ring" : Str), ("places" : Str), ("first" : Str), ("order" : Str), ("best" : Str), ("step" : Str), ("last" : Str), ("free" : Str), ("b" : Str), ("a" : Str), ("n" : Str), ("pair" : Str)] [("script" : Str)] (defScope s_law) := ⟨rfl, rfl, rfl, by decide +kernel, rfl, by decide +kernel, by decide +kernel⟩
theorem d_law (P : Pk (cxOf CX0 pr w K mg base [("script" : Str), ("w" : Str), ("turn" : Str), ("many" : Str), ("edges" : Str), ("k" : Str), ("some" : Str), ("pairs" : Str), ("turned" : Str), ("behind" : Str), ("place" : Str), ("other" : Str), ("on" : Str), ("rings" : Str), ("own" : Str), ("every" : Str), ("ring" : Str), ("places" : Str), ("first" : Str), ("order" : Str), ("best" : Str), ("step" : Str), ("last" : Str), ("free" : Str), ("b" : Str), ("a" : Str), ("n" : Str), ("pair" : Str)] "law" (defScope s_law) fa cdv A outer s H E).nox (mkC tbl k) k nmT bsT csT) : SnB (cxOf CX0 pr w K mg base [("script" : Str), ("w" : Str), ("turn" : Str), ("many" : Str), ("edges" : Str), ("k" : Str), ("some" : Str), ("pairs" : Str), ("turned" : Str), ("behind" : Str), ("place" : Str), ("other" : Str), ("on" : Str), ("rings" : Str), ("own" : Str), ("every" : Str), ("ring" : Str), ("places" : Str), ("first" : Str), ("order" : Str), ("best" : Str), ("step" : Str), ("last" : Str), ("free" : Str), ("b" : Str), ("a" : Str), ("n" : Str), ("pair" : Str)] "law" (defScope s_law) fa cdv A outer s H E).nox (mkC tbl k) (ixs [false]) (defBody s_law) b_law := (snB_cons (s_set P (sn_dic (snP_cons qs (q_call P 11 (SnI.val (qv 0) (SnI.val qi SnI.nil))) (snP_cons qs qi snP_nil)) rfl rfl (by simp) (by decide)))
  (snB_cons (s_for P PassesOwn.never (q_range1 P 9 (SnA.cons qi SnA.nil)) (g_name P 2) (snB_cons (s_parT P 3 4 (sn_bin ob_add qi (q_call P 12 (SnI.io (pv 1) (SnI.val qi SnI.nil)))) (sn_lst SnA.nil))
  (snB_cons (s_for P PassesOwn.never (q_range1 P 9 (SnA.cons (q_call P 12 (SnI.io (pv 1) (SnI.val qi SnI.nil))) SnA.nil)) (g_name P 5) (snB_cons (snS_app (pv 4) (sn_tup (SnA.cons (q_call P 12 (SnI.io (pv 1) (SnI.val (qv 3) SnI.nil))) (SnA.cons (q_call P 12 (SnI.io (pv 1) (SnI.val (qv 3) SnI.nil))) (SnA.cons (sn_tup SnA.nil) (SnA.cons qn (SnA.cons (sn_tup SnA.nil) (SnA.cons (sn_tup (SnA.cons qi (SnA.cons (sn_tup SnA.nil) SnA.nil))) (SnA.cons qn (SnA.cons (q_call P 12 (SnI.io (pv 1) (SnI.val qi SnI.nil))) SnA.nil))))))))))
  snB_nil))
  (snB_cons (s_set P (q_ty P 15 cb_tuple (SnA.cons (qv 4) SnA.nil)))
  (snB_cons (s_set P (q_ty P 15 cb_tuple (SnA.cons (q_comp1 P [("k", 5)] (q_range1 P 9 (SnA.cons (q_bi P 0 cb_len (SnA.cons (qv 4) SnA.nil)) SnA.nil)) (fun s H D cl fp P => ⟨(g_name P 5), (snC_one (t_gt P (q_call P 12 (SnI.io (pv 1) (SnI.val qi SnI.nil))) qi)), (qv 5)⟩)) SnA.nil)))
  (snB_cons (s_set P (q_comp1 P [("k", 5)] (snIt_val (qv 6)) (fun s H D cl fp P => ⟨(g_name P 5), snC_nil, (sn_sl_hi (q_ix P (qv 4) (qv 5)) qi)⟩)))
  (snB_cons (s_comp1 P [("a", 25), ("b", 24)] (snIt_val (qv 7)) (fun s H D cl fp P => ⟨(g_tup P (snGs_cons (g_name P 25) (snGs_cons (g_name P 24) snGs_nil))), snC_nil, (sn_tup (SnA.cons (qv 24) (SnA.cons (qv 25) SnA.nil)))⟩))
  (snB_cons (s_set P (q_ty P 17 (cb_dict P.calm) (SnA.cons (q_comp1 P [("place", 10)] (q_range1 P 9 (SnA.cons (qv 3) SnA.nil)) (fun s H D cl fp P => ⟨(g_name P 10), snC_nil, (sn_tup (SnA.cons (qv 10) (SnA.cons (q_call P 15 (SnI.val (qv 7) (SnI.val (sn_lst (SnA.cons (qv 10) SnA.nil)) SnI.nil))) SnA.nil)))⟩)) SnA.nil)))
  (snB_cons (s_for P PassesOwn.never (q_range1 P 9 (SnA.cons (qv 3) SnA.nil)) (g_name P 10) (snB_cons (s_set P (q_call P 12 (SnI.io (pv 1) (SnI.val (qv 3) SnI.nil))))
  (snB_cons (snS_ife (snW_or (snT_not (snT_val (q_call P 14 (SnI.val (q_call P 0 (SnI.val (qv 4) (SnI.val (qv 6) (SnI.val (sn_tup (SnA.cons (qv 10) SnA.nil)) SnI.nil)))) (SnI.val (q_ty P 15 cb_tuple (SnA.cons (q_ix P (qv 9) (qv 10)) SnA.nil)) SnI.nil))))) (snW_or1 (snT_not (snT_val (q_call P 14 (SnI.val (q_call P 1 (SnI.val (qv 4) (SnI.val (qv 6) (SnI.val (sn_tup (SnA.cons (qv 10) SnA.nil)) SnI.nil)))) (SnI.val (q_ty P 15 cb_tuple (SnA.cons (q_call P 15 (SnI.val (qv 8) (SnI.val (sn_lst (SnA.cons (qv 10) SnA.nil)) SnI.nil))) SnA.nil)) SnI.nil))))))).tt (snB_cons (snS_ret qb (by intro i h; cases h))
  snB_nil) snB_nil)
  (snB_cons (snS_ife (snT_not (snT_val (q_call P 14 (SnI.val (q_call P 0 (SnI.val (qv 4) (SnI.val (qv 6) (SnI.val (sn_tup (SnA.cons (qv 10) (SnA.cons (qv 11) SnA.nil))) SnI.nil)))) (SnI.val (q_ty P 15 cb_tuple (SnA.cons (q_sset P 7 8 (sn_bin ob_add (q_ix P (qv 9) (qv 10)) (q_ix P (qv 9) (qv 11)))) SnA.nil)) SnI.nil))))) (snB_cons (snS_ret qb (by intro i h; cases h))
  snB_nil) snB_nil)
  snB_nil))))
  (snB_cons (s_set P (q_comp1 P [("k", 5)] (snIt_val (qv 6)) (fun s H D cl fp P => ⟨(g_name P 5), (snC_one (t_in P (q_ix P (q_ix P (qv 4) (qv 5)) qi) (q_ix P (qv 9) (q_ix P (q_ix P (qv 4) (qv 5)) qi)))), (qv 5)⟩)))
  (snB_cons (s_set P (sn_lst SnA.nil))
  (snB_cons (s_for P PassesOwn.never (snIt_val (qv 12)) (g_name P 5) (snB_cons (s_set P (q_ty P 15 cb_tuple (SnA.cons (q_comp1 P [("n", 26)] (snIt_val (qv 12)) (fun s H D cl fp P => ⟨(g_name P 26), (snC_one (snW_and (t_in P (q_ix P (q_ix P (qv 4) (qv 26)) qi) (q_ix P (qv 9) (q_ix P (q_ix P (qv 4) (qv 5)) qi))) (snW_and1 (t_in P (q_ix P (q_ix P (qv 4) (qv 5)) qi) (q_ix P (qv 9) (q_ix P (q_ix P (qv 4) (qv 26)) qi))))).tt), (qv 26)⟩)) SnA.nil)))
  (snB_cons (s_set P (sn_bin ob_add (qv 13) (sn_bin ob_mulL (sn_lst (SnA.cons (qv 14) SnA.nil)) (q_ty P 12 cb_int (SnA.cons (q_nin P (qv 14) (qv 13)) SnA.nil)))))
  snB_nil)))
  (snB_cons (snS_ife (snW_or (snT_not (snT_val (q_call P 14 (SnI.val (q_call P 3 (SnI.val (qv 4) (SnI.val (qv 6) SnI.nil))) (SnI.val (q_ty P 15 cb_tuple (SnA.cons (q_bi P 7 (cb_sorted P.calm (P.u 8 (by decide))) (SnA.cons (qv 13) SnA.nil)) SnA.nil)) SnI.nil))))) (snW_or1 (snT_not (snT_val (q_call P 14 (SnI.val (q_call P 5 (SnI.val (qv 4) (SnI.val (qv 6) SnI.nil))) (SnI.val (q_ty P 15 cb_tuple (SnA.cons (q_comp1 P [("k", 5)] (snIt_val (qv 6)) (fun s H D cl fp P => ⟨(g_name P 5), (snC_one (t_nin P (qv 5) (qv 12))), (qv 5)⟩)) SnA.nil)) SnI.nil))))))).tt (snB_cons (snS_ret qb (by intro i h; cases h))
  snB_nil) snB_nil)
  (snB_cons (snS_ife (t_ne P (q_comp1 P [("k", 5)] (snIt_val (qv 6)) (fun s H D cl fp P => ⟨(g_name P 5), (snC_one (snT_not (snT_val (q_call P 14 (SnI.val (q_call P 9 (SnI.val (qv 4) (SnI.val (qv 6) (SnI.val (qv 5) SnI.nil)))) (SnI.val (q_in P (qv 5) (qv 12)) SnI.nil)))))), (qv 5)⟩)) (sn_lst SnA.nil)) (snB_cons (snS_ret qb (by intro i h; cases h))
  snB_nil) snB_nil)
  (snB_cons (s_set P (q_tupRange P 15 9 (q_bi P 0 cb_len (SnA.cons (qv 4) SnA.nil))))
  (snB_cons (s_for P PassesOwn.never (snIt_val (qv 13)) (g_name P 16) (snB_cons (s_set P (q_comp1 P [("k", 5)] (snIt_val (qv 16)) (fun s H D cl fp P => ⟨(g_name P 5), snC_nil, (q_ix P (q_ix P (qv 4) (qv 5)) qi)⟩)))
  (snB_cons (snS_ife (snT_not (snT_val (q_call P 14 (SnI.val (q_call P 8 (SnI.val (qv 4) (SnI.val (qv 15) (SnI.val (qv 16) SnI.nil)))) (SnI.val (q_ty P 15 cb_tuple (SnA.cons (q_comp1 P [("k", 5)] (snIt_val (qv 15)) (fun s H D cl fp P => ⟨(g_name P 5), (snC_one (snW_and (t_nin P (qv 5) (qv 16)) (snW_and1 (t_in P (q_ix P (q_ix P (qv 4) (qv 5)) qi) (qv 17)))).tt), (qv 5)⟩)) SnA.nil)) SnI.nil))))) (snB_cons (snS_ret qb (by intro i h; cases h))
  snB_nil) snB_nil)
  snB_nil)))
  (snB_cons (s_set P (q_call P 12 (SnI.io (pv 1) (SnI.val (qv 3) SnI.nil))))
  (snB_cons (s_set P (q_call P 6 (SnI.val (qv 4) (SnI.val (qv 6) (SnI.val (qv 18) SnI.nil)))))
  (snB_cons (snS_ife (snW_or (t_ne P (q_bi P 7 (cb_sorted P.calm (P.u 8 (by decide))) (SnA.cons (qv 19) SnA.nil)) (q_ix P (qv 9) (qv 18))) (snW_or1 (t_ne P (q_comp1 P [("k", 5)] (q_range2 P 9 (SnA.cons qi (SnA.cons (q_bi P 0 cb_len (SnA.cons (qv 19) SnA.nil)) SnA.nil))) (fun s H D cl fp P => ⟨(g_name P 5), (snC_one (t_gtT P (sn_tup (SnA.cons (sn_bin ob_sub qi (q_bi P 0 cb_len (SnA.cons (q_ix P (qv 9) (q_ix P (qv 19) (sn_bin ob_sub (qv 5) qi))) SnA.nil))) (SnA.cons (q_ix P (qv 19) (sn_bin ob_sub (qv 5) qi)) SnA.nil))) (sn_tup (SnA.cons (sn_bin ob_sub qi (q_bi P 0 cb_len (SnA.cons (q_ix P (qv 9) (q_ix P (qv 19) (qv 5))) SnA.nil))) (SnA.cons (q_ix P (qv 19) (qv 5)) SnA.nil))))), (qv 5)⟩)) (sn_lst SnA.nil)))).tt (snB_cons (snS_ret qb (by intro i h; cases h))
  snB_nil) snB_nil)
  (snB_cons (snS_ife (t_ne P (q_comp1 P [("k", 5)] (snIt_val (qv 6)) (fun s H D cl fp P => ⟨(g_name P 5), (snC_one (snW_and (t_nin P (qv 5) (qv 12)) (snW_and (t_in P (q_ix P (q_ix P (qv 4) (qv 5)) qi) (qv 19)) (snW_and1 (t_ge P (q_index P (qv 19) (q_ix P (q_ix P (qv 4) (qv 5)) qi)) (q_index P (qv 19) (q_ix P (q_ix P (qv 4) (qv 5)) qi)))))).tt), (qv 5)⟩)) (sn_lst SnA.nil)) (snB_cons (snS_ret qb (by intro i h; cases h))
  snB_nil) snB_nil)
  (snB_cons (s_set P (sn_dic (snP_cons (qv 18) qi snP_nil) rfl rfl (by simp) (by decide)))
  (snB_cons (s_for P PassesOwn.never (q_range1 P 9 (SnA.cons (sn_bin ob_add (qv 3) qi) SnA.nil)) (g_name P 21) (snB_cons (s_for P PassesOwn.never (snIt_val (qv 6)) (g_name P 5) (snB_cons (snS_ife (t_in P (q_ix P (q_ix P (qv 4) (qv 5)) qi) (qv 20)) (snB_cons (s_set P (sn_bin ob_add (q_ix P (qv 20) (q_ix P (q_ix P (qv 4) (qv 5)) qi)) (q_ix P (q_ix P (qv 4) (qv 5)) qi)))
  (snB_cons (s_setix P (pv 20) (q_ix P (q_ix P (qv 4) (qv 5)) qi) (q_bi P 3 (cb_min P.calm) (SnA.cons (qv 14) (SnA.cons (q_get2 P (qv 20) (q_ix P (q_ix P (qv 4) (qv 5)) qi) (qv 14)) SnA.nil))))
  snB_nil)) snB_nil)
  snB_nil))
  snB_nil))
  (snB_cons (s_for P PassesOwn.never (q_range1 P 9 (SnA.cons (qv 3) SnA.nil)) (g_name P 22) (snB_cons (snS_ife (snT_not (snT_val (q_call P 14 (SnI.val (q_call P 7 (SnI.val (qv 4) (SnI.val (qv 6) (SnI.val (qv 18) (SnI.val (qv 22) SnI.nil))))) (SnI.val (q_get P (qv 20) (qv 22)) SnI.nil))))) (snB_cons (snS_ret qb (by intro i h; cases h))
  snB_nil) snB_nil)
  (snB_cons (s_set P (sn_ife (t_ne P (qv 22) (qv 18)) (q_call P 15 (SnI.val (q_comp1 P [("pair", 27)] (snIt_val (qv 7)) (fun s H D cl fp P => ⟨(g_name P 27), (snC_one (t_nin P (qv 22) (qv 27))), (qv 27)⟩)) (SnI.val (sn_lst (SnA.cons (qv 18) SnA.nil)) SnI.nil))) (sn_lst SnA.nil)))
  (snB_cons (snS_ife (snT_not (snT_val (q_call P 14 (SnI.val (q_call P 10 (SnI.val (qv 4) (SnI.val (qv 6) (SnI.val (qv 18) (SnI.val (qv 22) SnI.nil))))) (SnI.val (q_ty P 15 cb_tuple (SnA.cons (q_comp1 P [("own", 14)] (snIt_val (q_ix P (qv 9) (qv 18))) (fun s H D cl fp P => ⟨(g_name P 14), (snC_one (t_nin P (qv 14) (qv 23))), (qv 14)⟩)) SnA.nil)) SnI.nil))))) (snB_cons (snS_ret qb (by intro i h; cases h))
  snB_nil) snB_nil)
  snB_nil))))
  snB_nil)))))))))))))))))))))))
  (snB_cons (snS_ret qb (by intro i h; cases h))
  snB_nil)))
end
end Tk06
end
section
set_option Elab.async false
set_option linter.all false
set_option maxRecDepth 100000
set_option maxHeartbeats 8000000
namespace Tk06
open PySem PySem.Spec PyProof.Rows L2 RZ Pv
section
def r_goals_of : Pv.Row := ⟨"goals_of", s_goals_of, [("edges" : Str), ("some" : Str), ("places" : Str), ("found" : Str), ("waiting" : Str), ("place" : Str), ("k" : Str)], [("edges" : Str), ("some" : Str), ("places" : Str)], ⟨3, 7, [false, false, false], b_goals_of⟩⟩
theorem o_goals_of : RowOk tbl nmT bsT csT 0 r_goals_of := ⟨rfl, rfl, rfl, rfl, sc_goals_of, fun P => d_goals_of P⟩
def r_sources_of : Pv.Row := ⟨"sources_of", s_sources_of, [("edges" : Str), ("some" : Str), ("places" : Str), ("found" : Str), ("waiting" : Str), ("place" : Str), ("k" : Str)], [("edges" : Str), ("some" : Str), ("places" : Str)], ⟨3, 7, [false, false, false], b_sources_of⟩⟩
theorem o_sources_of : RowOk tbl nmT bsT csT 1 r_sources_of := ⟨rfl, rfl, rfl, rfl, sc_sources_of, fun P => d_sources_of P⟩
def r_places_of : Pv.Row := ⟨"places_of", s_places_of, [("edges" : Str), ("some" : Str), ("k" : Str)], [("edges" : Str), ("some" : Str)], ⟨2, 3, [false, false], b_places_of⟩⟩
theorem o_places_of : RowOk tbl nmT bsT csT 2 r_places_of := ⟨rfl, rfl, rfl, rfl, sc_places_of, fun P => d_places_of P⟩
def r_rings_of : Pv.Row := ⟨"rings_of", s_rings_of, [("edges" : Str), ("some" : Str), ("behind" : Str), ("found" : Str), ("met" : Str), ("k" : Str), ("source" : Str), ("target" : Str), ("own" : Str), ("n" : Str), ("place" : Str)], [("edges" : Str), ("some" : Str)], ⟨2, 11, [false, false], b_rings_of⟩⟩
theorem o_rings_of : RowOk tbl nmT bsT csT 3 r_rings_of := ⟨rfl, rfl, rfl, rfl, sc_rings_of, fun P => d_rings_of P⟩
def r_is_beside : Pv.Row := ⟨"is_beside", s_is_beside, [("edge" : Str), ("behind" : Str), ("place" : Str), ("source" : Str), ("target" : Str)], [("edge" : Str), ("behind" : Str), ("place" : Str)], ⟨3, 5, [false, false, false], b_is_beside⟩⟩
theorem o_is_beside : RowOk tbl nmT bsT csT 4 r_is_beside := ⟨rfl, rfl, rfl, rfl, sc_is_beside, fun P => d_is_beside P⟩
def r_off_rings : Pv.Row := ⟨"off_rings", s_off_rings, [("edges" : Str), ("some" : Str), ("rings" : Str), ("k" : Str), ("ring" : Str)], [("edges" : Str), ("some" : Str)], ⟨2, 5, [false, false], b_off_rings⟩⟩
theorem o_off_rings : RowOk tbl nmT bsT csT 5 r_off_rings := ⟨rfl, rfl, rfl, rfl, sc_off_rings, fun P => d_off_rings P⟩
def r_order_of : Pv.Row := ⟨"order_of", s_order_of, [("edges" : Str), ("some" : Str), ("first" : Str), ("reach" : Str), ("behind" : Str), ("rows" : Str), ("place" : Str), ("_" : Str)], [("edges" : Str), ("some" : Str), ("first" : Str)], ⟨3, 8, [false, false, false], b_order_of⟩⟩
theorem o_order_of : RowOk tbl nmT bsT csT 6 r_order_of := ⟨rfl, rfl, rfl, rfl, sc_order_of, fun P => d_order_of P⟩
def r_least_steps : Pv.Row := ⟨"least_steps", s_least_steps, [("edges" : Str), ("some" : Str), ("first" : Str), ("last" : Str), ("best" : Str), ("_" : Str), ("k" : Str), ("source" : Str), ("target" : Str), ("own" : Str)], [("edges" : Str), ("some" : Str), ("first" : Str), ("last" : Str)], ⟨4, 10, [false, false, false, false], b_least_steps⟩⟩
theorem o_least_steps : RowOk tbl nmT bsT csT 7 r_least_steps := ⟨rfl, rfl, rfl, rfl, sc_least_steps, fun P => d_least_steps P⟩
def r_entries_of : Pv.Row := ⟨"entries_of", s_entries_of, [("edges" : Str), ("every" : Str), ("ring" : Str), ("inside" : Str), ("k" : Str)], [("edges" : Str), ("every" : Str), ("ring" : Str)], ⟨3, 5, [false, false, false], b_entries_of⟩⟩
theorem o_entries_of : RowOk tbl nmT bsT csT 8 r_entries_of := ⟨rfl, rfl, rfl, rfl, sc_entries_of, fun P => d_entries_of P⟩
def r_is_on_ring : Pv.Row := ⟨"is_on_ring", s_is_on_ring, [("edges" : Str), ("some" : Str), ("k" : Str)], [("edges" : Str), ("some" : Str), ("k" : Str)], ⟨3, 3, [false, false, false], b_is_on_ring⟩⟩
theorem o_is_on_ring : RowOk tbl nmT bsT csT 9 r_is_on_ring := ⟨rfl, rfl, rfl, rfl, sc_is_on_ring, fun P => d_is_on_ring P⟩
def r_ruled_by : Pv.Row := ⟨"ruled_by", s_ruled_by, [("edges" : Str), ("some" : Str), ("first" : Str), ("place" : Str), ("reach" : Str), ("left" : Str), ("free" : Str), ("k" : Str), ("own" : Str)], [("edges" : Str), ("some" : Str), ("first" : Str), ("place" : Str)], ⟨4, 9, [false, false, false, false], b_ruled_by⟩⟩
theorem o_ruled_by : RowOk tbl nmT bsT csT 10 r_ruled_by := ⟨rfl, rfl, rfl, rfl, sc_ruled_by, fun P => d_ruled_by P⟩
def r_law_draws : Pv.Row := ⟨"_law_draws", s_law_draws, [("script" : Str), ("many" : Str), ("draws" : Str), ("mixed" : Str), ("k" : Str), ("cell" : Str), ("rest" : Str), ("turn" : Str)], [("script" : Str), ("many" : Str)], ⟨2, 8, [false, false], b_law_draws⟩⟩
theorem o_law_draws : RowOk tbl nmT bsT csT 11 r_law_draws := ⟨rfl, rfl, rfl, rfl, sc_law_draws, fun P => d_law_draws P⟩
def r_law_next : Pv.Row := ⟨"_law_next", s_law_next, [("w" : Str), ("many" : Str)], [("w" : Str), ("many" : Str)], ⟨2, 2, [true, false], b_law_next⟩⟩
theorem o_law_next : RowOk tbl nmT bsT csT 12 r_law_next := ⟨rfl, rfl, rfl, rfl, sc_law_next, fun P => d_law_next P⟩
def r_law_pick : Pv.Row := ⟨"_law_pick", s_law_pick, [("w" : Str), ("rows" : Str)], [("w" : Str), ("rows" : Str)], ⟨2, 2, [true, false], b_law_pick⟩⟩
theorem o_law_pick : RowOk tbl nmT bsT csT 13 r_law_pick := ⟨rfl, rfl, rfl, rfl, sc_law_pick, fun P => d_law_pick P⟩
def r_law_same : Pv.Row := ⟨"_law_same", s_law_same, [("seen" : Str), ("due" : Str), ("waiting" : Str), ("one" : Str), ("other" : Str), ("keys" : Str), ("key" : Str), ("k" : Str)], [("seen" : Str), ("due" : Str)], ⟨2, 8, [false, false], b_law_same⟩⟩
theorem o_law_same : RowOk tbl nmT bsT csT 14 r_law_same := ⟨rfl, rfl, rfl, rfl, sc_law_same, fun P => d_law_same P⟩
def r_law_behind : Pv.Row := ⟨"_law_behind", s_law_behind, [("pairs" : Str), ("places" : Str), ("found" : Str), ("turn" : Str), ("b" : Str), ("a" : Str)], [("pairs" : Str), ("places" : Str)], ⟨2, 6, [false, false], b_law_behind⟩⟩
theorem o_law_behind : RowOk tbl nmT bsT csT 15 r_law_behind := ⟨rfl, rfl, rfl, rfl, sc_law_behind, fun P => d_law_behind P⟩
def r_law : Pv.Row := ⟨"law", s_law, [("script" : Str), ("w" : Str), ("turn" : Str), ("many" : Str), ("edges" : Str), ("k" : Str), ("some" : Str), ("pairs" : Str), ("turned" : Str), ("behind" : Str), ("place" : Str), ("other" : Str), ("on" : Str), ("rings" : Str), ("own" : Str), ("every" : Str), ("ring" : Str), ("places" : Str), ("first" : Str), ("order" : Str), ("best" : Str), ("step" : Str), ("last" : Str), ("free" : Str), ("b" : Str), ("a" : Str), ("n" : Str), ("pair" : Str)], [("script" : Str)], ⟨1, 28, [false], b_law⟩⟩
theorem o_law : RowOk tbl nmT bsT csT 16 r_law := ⟨rfl, rfl, rfl, rfl, sc_law, fun P => d_law P⟩
def rows : List Pv.Row := [r_goals_of, r_sources_of, r_places_of, r_rings_of, r_is_beside, r_off_rings, r_order_of, r_least_steps, r_entries_of, r_is_on_ring, r_ruled_by, r_law_draws, r_law_next, r_law_pick, r_law_same, r_law_behind, r_law]
theorem rows_ok : AllR (RowOk tbl nmT bsT csT) 0 rows := ⟨o_goals_of, o_sources_of, o_places_of, o_rings_of, o_is_beside, o_off_rings, o_order_of, o_least_steps, o_entries_of, o_is_on_ring, o_ruled_by, o_law_draws, o_law_next, o_law_pick, o_law_same, o_law_behind, o_law, trivial⟩
theorem all_mk {pr : Program} {w : World} {K : PySem.W.Frag} {h : Heap} {mg : Str → Option Value} {fa : Addr} (KX : K.In h) (G : h.Ns mainGlobals mg) (hfa : mg "law" = some (.ref fa)) {f0 : Addr} {od0 an0 : Option Addr} {sl0 : Array (Option Value)} {oc0 kV0 dc0 pm0 cd0 ct0 : Value} {f1 : Addr} {od1 an1 : Option Addr} {sl1 : Array (Option Value)} {oc1 kV1 dc1 pm1 cd1 ct1 : Value} {f2 : Addr} {od2 an2 : Option Addr} {sl2 : Array (Option Value)} {oc2 kV2 dc2 pm2 cd2 ct2 : Value} {f3 : Addr} {od3 an3 : Option Addr} {sl3 : Array (Option Value)} {oc3 kV3 dc3 pm3 cd3 ct3 : Value} {f4 : Addr} {od4 an4 : Option Addr} {sl4 : Array (Option Value)} {oc4 kV4 dc4 pm4 cd4 ct4 : Value} {f5 : Addr} {od5 an5 : Option Addr} {sl5 : Array (Option Value)} {oc5 kV5 dc5 pm5 cd5 ct5 : Value} {f6 : Addr} {od6 an6 : Option Addr} {sl6 : Array (Option Value)} {oc6 kV6 dc6 pm6 cd6 ct6 : Value} {f7 : Addr} {od7 an7 : Option Addr} {sl7 : Array (Option Value)} {oc7 kV7 dc7 pm7 cd7 ct7 : Value} {f8 : Addr} {od8 an8 : Option Addr} {sl8 : Array (Option Value)} {oc8 kV8 dc8 pm8 cd8 ct8 : Value} {f9 : Addr} {od9 an9 : Option Addr} {sl9 : Array (Option Value)} {oc9 kV9 dc9 pm9 cd9 ct9 : Value} {f10 : Addr} {od10 an10 : Option Addr} {sl10 : Array (Option Value)} {oc10 kV10 dc10 pm10 cd10 ct10 : Value} {f11 : Addr} {od11 an11 : Option Addr} {sl11 : Array (Option Value)} {oc11 kV11 dc11 pm11 cd11 ct11 : Value} {f12 : Addr} {od12 an12 : Option Addr} {sl12 : Array (Option Value)} {oc12 kV12 dc12 pm12 cd12 ct12 : Value} {f13 : Addr} {od13 an13 : Option Addr} {sl13 : Array (Option Value)} {oc13 kV13 dc13 pm13 cd13 ct13 : Value} {f14 : Addr} {od14 an14 : Option Addr} {sl14 : Array (Option Value)} {oc14 kV14 dc14 pm14 cd14 ct14 : Value} {f15 : Addr} {od15 an15 : Option Addr} {sl15 : Array (Option Value)} {oc15 kV15 dc15 pm15 cd15 ct15 : Value} {f16 : Addr} {od16 an16 : Option Addr} {sl16 : Array (Option Value)} {oc16 kV16 dc16 pm16 cd16 ct16 : Value} (a0 : PySem.W.nsIn K mainGlobals "goals_of" = some (some (.ref f0))) (l0 : K.lookup f0 = some ⟨oc0, od0, .func (PySem.W.fnOf "goals_of" "goals_of" (defArgs s_goals_of) (defBody s_goals_of) (defScope s_goals_of) .none kV0 dc0 pm0 an0 cd0 ct0), sl0⟩) (c0 : PySem.W.codeIn K cd0 "goals_of" = true) (k0 : PySem.W.keepIn K (.ref f0) = true) (a1 : PySem.W.nsIn K mainGlobals "sources_of" = some (some (.ref f1))) (l1 : K.lookup f1 = some ⟨oc1, od1, .func (PySem.W.fnOf "sources_of" "sources_of" (defArgs s_sources_of) (defBody s_sources_of) (defScope s_sources_of) .none kV1 dc1 pm1 an1 cd1 ct1), sl1⟩) (c1 : PySem.W.codeIn K cd1 "sources_of" = true) (k1 : PySem.W.keepIn K (.ref f1) = true) (a2 : PySem.W.nsIn K mainGlobals "places_of" = some (some (.ref f2))) (l2 : K.lookup f2 = some ⟨oc2, od2, .func (PySem.W.fnOf "places_of" "places_of" (defArgs s_places_of) (defBody s_places_of) (defScope s_places_of) .none kV2 dc2 pm2 an2 cd2 ct2), sl2⟩) (c2 : PySem.W.codeIn K cd2 "places_of" = true) (k2 : PySem.W.keepIn K (.ref f2) = true) (a3 : PySem.W.nsIn K mainGlobals "rings_of" = some (some (.ref f3))) (l3 : K.lookup f3 = some ⟨oc3, od3, .func (PySem.W.fnOf "rings_of" "rings_of" (defArgs s_rings_of) (defBody s_rings_of) (defScope s_rings_of) .none kV3 dc3 pm3 an3 cd3 ct3), sl3⟩) (c3 : PySem.W.codeIn K cd3 "rings_of" = true) (k3 : PySem.W.keepIn K (.ref f3) = true) (a4 : PySem.W.nsIn K mainGlobals "is_beside" = some (some (.ref f4))) (l4 : K.lookup f4 = some ⟨oc4, od4, .func (PySem.W.fnOf "is_beside" "is_beside" (defArgs s_is_beside) (defBody s_is_beside) (defScope s_is_beside) .none kV4 dc4 pm4 an4 cd4 ct4), sl4⟩) (c4 : PySem.W.codeIn K cd4 "is_beside" = true) (k4 : PySem.W.keepIn K (.ref f4) = true) (a5 : PySem.W.nsIn K mainGlobals "off_rings" = some (some (.ref f5))) (l5 : K.lookup f5 = some ⟨oc5, od5, .func (PySem.W.fnOf "off_rings" "off_rings" (defArgs s_off_rings) (defBody s_off_rings) (defScope s_off_rings) .none kV5 dc5 pm5 an5 cd5 ct5), sl5⟩) (c5 : PySem.W.codeIn K cd5 "off_rings" = true) (k5 : PySem.W.keepIn K (.ref f5) = true) (a6 : PySem.W.nsIn K mainGlobals "order_of" = some (some (.ref f6))) (l6 : K.lookup f6 = some ⟨oc6, od6, .func (PySem.W.fnOf "order_of" "order_of" (defArgs s_order_of) (defBody s_order_of) (defScope s_order_of) .none kV6 dc6 pm6 an6 cd6 ct6), sl6⟩) (c6 : PySem.W.codeIn K cd6 "order_of" = true) (k6 : PySem.W.keepIn K (.ref f6) = true) (a7 : PySem.W.nsIn K mainGlobals "least_steps" = some (some (.ref f7))) (l7 : K.lookup f7 = some ⟨oc7, od7, .func (PySem.W.fnOf "least_steps" "least_steps" (defArgs s_least_steps) (defBody s_least_steps) (defScope s_least_steps) .none kV7 dc7 pm7 an7 cd7 ct7), sl7⟩) (c7 : PySem.W.codeIn K cd7 "least_steps" = true) (k7 : PySem.W.keepIn K (.ref f7) = true) (a8 : PySem.W.nsIn K mainGlobals "entries_of" = some (some (.ref f8))) (l8 : K.lookup f8 = some ⟨oc8, od8, .func (PySem.W.fnOf "entries_of" "entries_of" (defArgs s_entries_of) (defBody s_entries_of) (defScope s_entries_of) .none kV8 dc8 pm8 an8 cd8 ct8), sl8⟩) (c8 : PySem.W.codeIn K cd8 "entries_of" = true) (k8 : PySem.W.keepIn K (.ref f8) = true) (a9 : PySem.W.nsIn K mainGlobals "is_on_ring" = some (some (.ref f9))) (l9 : K.lookup f9 = some ⟨oc9, od9, .func (PySem.W.fnOf "is_on_ring" "is_on_ring" (defArgs s_is_on_ring) (defBody s_is_on_ring) (defScope s_is_on_ring) .none kV9 dc9 pm9 an9 cd9 ct9), sl9⟩) (c9 : PySem.W.codeIn K cd9 "is_on_ring" = true) (k9 : PySem.W.keepIn K (.ref f9) = true) (a10 : PySem.W.nsIn K mainGlobals "ruled_by" = some (some (.ref f10))) (l10 : K.lookup f10 = some ⟨oc10, od10, .func (PySem.W.fnOf "ruled_by" "ruled_by" (defArgs s_ruled_by) (defBody s_ruled_by) (defScope s_ruled_by) .none kV10 dc10 pm10 an10 cd10 ct10), sl10⟩) (c10 : PySem.W.codeIn K cd10 "ruled_by" = true) (k10 : PySem.W.keepIn K (.ref f10) = true) (a11 : PySem.W.nsIn K mainGlobals "_law_draws" = some (some (.ref f11))) (l11 : K.lookup f11 = some ⟨oc11, od11, .func (PySem.W.fnOf "_law_draws" "_law_draws" (defArgs s_law_draws) (defBody s_law_draws) (defScope s_law_draws) .none kV11 dc11 pm11 an11 cd11 ct11), sl11⟩) (c11 : PySem.W.codeIn K cd11 "_law_draws" = true) (k11 : PySem.W.keepIn K (.ref f11) = true) (a12 : PySem.W.nsIn K mainGlobals "_law_next" = some (some (.ref f12))) (l12 : K.lookup f12 = some ⟨oc12, od12, .func (PySem.W.fnOf "_law_next" "_law_next" (defArgs s_law_next) (defBody s_law_next) (defScope s_law_next) .none kV12 dc12 pm12 an12 cd12 ct12), sl12⟩) (c12 : PySem.W.codeIn K cd12 "_law_next" = true) (k12 : PySem.W.keepIn K (.ref f12) = true) (a13 : PySem.W.nsIn K mainGlobals "_law_pick" = some (some (.ref f13))) (l13 : K.lookup f13 = some ⟨oc13, od13, .func (PySem.W.fnOf "_law_pick" "_law_pick" (defArgs s_law_pick) (defBody s_law_pick) (defScope s_law_pick) .none kV13 dc13 pm13 an13 cd13 ct13), sl13⟩) (c13 : PySem.W.codeIn K cd13 "_law_pick" = true) (k13 : PySem.W.keepIn K (.ref f13) = true) (a14 : PySem.W.nsIn K mainGlobals "_law_same" = some (some (.ref f14))) (l14 : K.lookup f14 = some ⟨oc14, od14, .func (PySem.W.fnOf "_law_same" "_law_same" (defArgs s_law_same) (defBody s_law_same) (defScope s_law_same) .none kV14 dc14 pm14 an14 cd14 ct14), sl14⟩) (c14 : PySem.W.codeIn K cd14 "_law_same" = true) (k14 : PySem.W.keepIn K (.ref f14) = true) (a15 : PySem.W.nsIn K mainGlobals "_law_behind" = some (some (.ref f15))) (l15 : K.lookup f15 = some ⟨oc15, od15, .func (PySem.W.fnOf "_law_behind" "_law_behind" (defArgs s_law_behind) (defBody s_law_behind) (defScope s_law_behind) .none kV15 dc15 pm15 an15 cd15 ct15), sl15⟩) (c15 : PySem.W.codeIn K cd15 "_law_behind" = true) (k15 : PySem.W.keepIn K (.ref f15) = true) (a16 : PySem.W.nsIn K mainGlobals "law" = some (some (.ref f16))) (l16 : K.lookup f16 = some ⟨oc16, od16, .func (PySem.W.fnOf "law" "law" (defArgs s_law) (defBody s_law) (defScope s_law) .none kV16 dc16 pm16 an16 cd16 ct16), sl16⟩) (c16 : PySem.W.codeIn K cd16 "law" = true) (k16 : PySem.W.keepIn K (.ref f16) = true) (z0 : PySem.W.nsIn K mainGlobals "len" = some none) (z1 : PySem.W.nsIn K mainGlobals "abs" = some none) (z2 : PySem.W.nsIn K mainGlobals "max" = some none) (z3 : PySem.W.nsIn K mainGlobals "min" = some none) (z4 : PySem.W.nsIn K mainGlobals "sum" = some none) (z5 : PySem.W.nsIn K mainGlobals "all" = some none) (z6 : PySem.W.nsIn K mainGlobals "any" = some none) (z7 : PySem.W.nsIn K mainGlobals "sorted" = some none) (z8 : PySem.W.nsIn K mainGlobals "set" = some none) (z9 : PySem.W.nsIn K mainGlobals "range" = some none) (z10 : PySem.W.nsIn K mainGlobals "zip" = some none) (z11 : PySem.W.nsIn K mainGlobals "isinstance" = some none) (z12 : PySem.W.nsIn K mainGlobals "int" = some none) (z13 : PySem.W.nsIn K mainGlobals "bool" = some none) (z14 : PySem.W.nsIn K mainGlobals "str" = some none) (z15 : PySem.W.nsIn K mainGlobals "tuple" = some none) (z16 : PySem.W.nsIn K mainGlobals "list" = some none) (z17 : PySem.W.nsIn K mainGlobals "dict" = some none) (z18 : PySem.W.nsIn K mainGlobals "enumerate" = some none)  :
    ∃ fd : FuncData, (∀ (s : Shared) (v : Value), BindsTo s fd ⟨[v], []⟩ [("script", v)]) ∧ ∀ base : Heap, K.In base → base.Ns mainGlobals mg → FnOk pr w K mg base CX0 60 fa fd ["script"] (spTop K tbl 60 16) := by
  have hm : AllR (fun _ r => AtMg K mg r) 0 rows := ⟨at_mk (r := r_goals_of) KX G a0 l0 c0 k0 (fun _ _ _ _ _ _ us hl => match us, hl with | [_, _, _], _ => rfl), at_mk (r := r_sources_of) KX G a1 l1 c1 k1 (fun _ _ _ _ _ _ us hl => match us, hl with | [_, _, _], _ => rfl), at_mk (r := r_places_of) KX G a2 l2 c2 k2 (fun _ _ _ _ _ _ us hl => match us, hl with | [_, _], _ => rfl), at_mk (r := r_rings_of) KX G a3 l3 c3 k3 (fun _ _ _ _ _ _ us hl => match us, hl with | [_, _], _ => rfl), at_mk (r := r_is_beside) KX G a4 l4 c4 k4 (fun _ _ _ _ _ _ us hl => match us, hl with | [_, _, _], _ => rfl), at_mk (r := r_off_rings) KX G a5 l5 c5 k5 (fun _ _ _ _ _ _ us hl => match us, hl with | [_, _], _ => rfl), at_mk (r := r_order_of) KX G a6 l6 c6 k6 (fun _ _ _ _ _ _ us hl => match us, hl with | [_, _, _], _ => rfl), at_mk (r := r_least_steps) KX G a7 l7 c7 k7 (fun _ _ _ _ _ _ us hl => match us, hl with | [_, _, _, _], _ => rfl), at_mk (r := r_entries_of) KX G a8 l8 c8 k8 (fun _ _ _ _ _ _ us hl => match us, hl with | [_, _, _], _ => rfl), at_mk (r := r_is_on_ring) KX G a9 l9 c9 k9 (fun _ _ _ _ _ _ us hl => match us, hl with | [_, _, _], _ => rfl), at_mk (r := r_ruled_by) KX G a10 l10 c10 k10 (fun _ _ _ _ _ _ us hl => match us, hl with | [_, _, _, _], _ => rfl), at_mk (r := r_law_draws) KX G a11 l11 c11 k11 (fun _ _ _ _ _ _ us hl => match us, hl with | [_, _], _ => rfl), at_mk (r := r_law_next) KX G a12 l12 c12 k12 (fun _ _ _ _ _ _ us hl => match us, hl with | [_, _], _ => rfl), at_mk (r := r_law_pick) KX G a13 l13 c13 k13 (fun _ _ _ _ _ _ us hl => match us, hl with | [_, _], _ => rfl), at_mk (r := r_law_same) KX G a14 l14 c14 k14 (fun _ _ _ _ _ _ us hl => match us, hl with | [_, _], _ => rfl), at_mk (r := r_law_behind) KX G a15 l15 c15 k15 (fun _ _ _ _ _ _ us hl => match us, hl with | [_, _], _ => rfl), at_mk (r := r_law) KX G a16 l16 c16 k16 (fun _ _ _ _ _ _ us hl => match us, hl with | [_], _ => rfl), trivial⟩
  have hb : ∀ (i : Nat) x, bsT[i]? = some x → mg x = none := fun i x e => match i, x, e with
    | 0, _, e => by cases e; exact PySem.W.mg_none_of KX G z0
    | 1, _, e => by cases e; exact PySem.W.mg_none_of KX G z1
    | 2, _, e => by cases e; exact PySem.W.mg_none_of KX G z2
    | 3, _, e => by cases e; exact PySem.W.mg_none_of KX G z3
    | 4, _, e => by cases e; exact PySem.W.mg_none_of KX G z4
    | 5, _, e => by cases e; exact PySem.W.mg_none_of KX G z5
    | 6, _, e => by cases e; exact PySem.W.mg_none_of KX G z6
    | 7, _, e => by cases e; exact PySem.W.mg_none_of KX G z7
    | 8, _, e => by cases e; exact PySem.W.mg_none_of KX G z8
    | 9, _, e => by cases e; exact PySem.W.mg_none_of KX G z9
    | 10, _, e => by cases e; exact PySem.W.mg_none_of KX G z10
    | 11, _, e => by cases e; exact PySem.W.mg_none_of KX G z11
    | 12, _, e => by cases e; exact PySem.W.mg_none_of KX G z12
    | 13, _, e => by cases e; exact PySem.W.mg_none_of KX G z13
    | 14, _, e => by cases e; exact PySem.W.mg_none_of KX G z14
    | 15, _, e => by cases e; exact PySem.W.mg_none_of KX G z15
    | 16, _, e => by cases e; exact PySem.W.mg_none_of KX G z16
    | 17, _, e => by cases e; exact PySem.W.mg_none_of KX G z17
    | 18, _, e => by cases e; exact PySem.W.mg_none_of KX G z18
  have hk : ∀ (i : Nat) x d, csT[i]? = some (x, d) → ∃ v u, mg x = some u ∧ RelV v u ∧ ∀ H, Rep K H d v := fun i x d e => (by simp [csT] at e)
  obtain ⟨fa2, fd2, g1, g2, g3⟩ : AtMg K mg r_law := hm.at (j := 16) rfl
  have e2 := hfa.symm.trans g2
  cases e2
  obtain ⟨oc, od, kV, doc, pm, an, cdv, ct, osl, rfl, lk, hcd⟩ := id g1.ex
  exact ⟨_, fun s v => .of_eq rfl, fun base _ _ => levels rows_ok hm hb hk 60 16 r_law rfl _ _ g1⟩
end
end Tk06
end
section
/-! PvS: what the laws share: their draws, their comparing; plain Lean. -/
namespace Pv
open Lean in
local macro_rules
  | `(tactic| simp! $[$l:location]?) => `(tactic| simp [evSs, evS, ev, evT, evPs, evDs, evAs, evC, evRs, Pv.get, Op.keeps, Out.bind, Out.fl, Fl.bind, fetchs, fetch, opD, o_tup, o_lst, o_add, o_sub, o_mul, o_fdiv, o_mod, o_pow, o_neg, o_eq, o_ne, o_lt, o_gt, o_le, o_ge, o_in_, o_nin, o_isN, o_isnN, o_ix, o_sl, o_len, o_abs, o_max, o_min, o_tupleOf, o_listOf, o_intOf, o_isi, o_get, o_get2, bounds, slD, dlook, flatD, mlook, mput, mset, mhas, D.beq, keyOk, ofO, backs, ioFits, assign, assigns, forget, T.slots, T.slotss, noOwn, frzSlot, sets, walk, wVal, wRange, itemsOf, rangeD, argsOf, iosOf, noDup, putBacks, setAt, putIx] $[$l]?)
  | `(tactic| simp! [$as,*] $[$l:location]?) => `(tactic| simp [evSs, evS, ev, evT, evPs, evDs, evAs, evC, evRs, Pv.get, Op.keeps, Out.bind, Out.fl, Fl.bind, fetchs, fetch, opD, o_tup, o_lst, o_add, o_sub, o_mul, o_fdiv, o_mod, o_pow, o_neg, o_eq, o_ne, o_lt, o_gt, o_le, o_ge, o_in_, o_nin, o_isN, o_isnN, o_ix, o_sl, o_len, o_abs, o_max, o_min, o_tupleOf, o_listOf, o_intOf, o_isi, o_get, o_get2, bounds, slD, dlook, flatD, mlook, mput, mset, mhas, D.beq, keyOk, ofO, backs, ioFits, assign, assigns, forget, T.slots, T.slotss, noOwn, frzSlot, sets, walk, wVal, wRange, itemsOf, rangeD, argsOf, iosOf, noDup, putBacks, setAt, putIx, $as,*] $[$l]?)

theorem callF_succ (wh : (Env → Out Bool) → (Env → Fl) → Env → Fl) (tbl : Nat → Option Fn) (k f : Nat) (rs : List R) : callF wh tbl (k + 1) f rs = match tbl f with
    | none => .no
    | some fn => if ioFits fn.io rs then
        (match evSs ⟨wh, callF wh tbl k, fun f => ((tbl f).map (·.io)).getD []⟩ fn.body (rs.map some ++ List.replicate (fn.ns - fn.np) none) with
        | .ret r σ => (match backs fn.io σ with | some bs => .ok r bs | none => .no)
        | .next σ => (match backs fn.io σ with | some bs => .ok (.v .non) bs | none => .no)
        | _ => .no)
      else .no := by rw [callF] <;> rfl
/-- a call whose body returns -/
theorem callF_ret {wh : (Env → Out Bool) → (Env → Fl) → Env → Fl} {tbl : Nat → Option Fn} {k f np ns : Nat} {io : List Bool} {body : Ss} {rs bs : List R} {σ0 σ' : Env} {r : R} (ht : tbl f = some ⟨np, ns, io, body⟩) (hio : ioFits io rs = true) (hσ : rs.map some ++ List.replicate (ns - np) none = σ0)
    (e : evSs ⟨wh, callF wh tbl k, fun f => ((tbl f).map (·.io)).getD []⟩ body σ0 = .ret r σ') (hb : backs io σ' = some bs) : callF wh tbl (k + 1) f rs = .ok r bs := by
  rw [callF_succ, ht]
  simp only [hio, if_true, hσ, e, hb]
theorem backs_ff {a b : Option R} {σ : Env} : backs [false, false] (a :: b :: σ) = some [] := by cases a <;> cases b <;> rfl
theorem backs_f {a : Option R} {σ : Env} : backs [false] (a :: σ) = some [] := by cases a <;> rfl
theorem backs_fff {a b c : Option R} {σ : Env} : backs [false, false, false] (a :: b :: c :: σ) = some [] := by cases a <;> cases b <;> cases c <;> rfl
/-- what simp unfolds of the evaluator -/
theorem evC_nil' {C : Ctx} {σ : Env} : evC C .nil σ = .ok true σ := by rw [evC]
theorem forL_inv {body : D → Env → Fl} (I : Nat → Env → Prop) : ∀ {ds : List D} {j : Nat} {σ : Env}, (∀ i d σ, ds[i]? = some d → I (j + i) σ → ∃ σ', (body d σ = .next σ' ∨ body d σ = .cnt σ') ∧ I (j + i + 1) σ') → I j σ → ∃ σ', forL body ds σ = .next σ' ∧ I (j + ds.length) σ'
  | [], j, σ, _, h => ⟨σ, rfl, h⟩
  | d :: ds, j, σ, hs, h => by
    obtain ⟨σ1, e, h1⟩ := hs 0 d σ rfl h
    obtain ⟨σ2, e2, h2⟩ := forL_inv I (ds := ds) (j := j + 1) (σ := σ1) (fun i d' σ' hd hi => by
      have := hs (i + 1) d' σ' (by simpa using hd) (by rw [show j + (i + 1) = j + 1 + i by omega]; exact hi)
      rw [show j + (i + 1) + 1 = j + 1 + i + 1 by omega] at this
      exact this) h1
    refine ⟨σ2, ?_, by rw [List.length_cons, show j + (ds.length + 1) = j + 1 + ds.length by omega]; exact h2⟩
    rcases e with e | e <;> simp only [forL, e] <;> exact e2
@[simp] theorem own_v (d : D) : (R.v d).own = false := rfl
@[simp] theorem own_l (d : List D) : (R.l d).own = true := rfl
@[simp] theorem own_m (d : List (D × D)) : (R.m d).own = true := rfl
@[simp] theorem frz_v (d : D) : (R.v d).frz = d := rfl
@[simp] theorem frz_l (d : List D) : (R.l d).frz = .lst d := rfl
@[simp] theorem frz_m (d : List (D × D)) : (R.m d).frz = .dic d := rfl
@[simp] theorem kind_n : kind .non = 0 := rfl
@[simp] theorem kind_b (b : Bool) : kind (.bl b) = 1 := rfl
@[simp] theorem kind_i (b : Int) : kind (.int b) = 2 := rfl
@[simp] theorem kind_s (b : List Nat) : kind (.str b) = 3 := rfl
@[simp] theorem kind_t (b : List D) : kind (.tup b) = 4 := rfl
@[simp] theorem kind_l (b : List D) : kind (.lst b) = 5 := rfl
@[simp] theorem kind_d (b : List (D × D)) : kind (.dic b) = 6 := rfl
@[simp] theorem isTy_n (t : Ty) : isTy t .non = false := by cases t <;> rfl
@[simp] theorem isTy_b (t : Ty) (b : Bool) : isTy t (.bl b) = (decide (t = .int) || decide (t = .bool)) := by cases t <;> rfl
@[simp] theorem isTy_i (t : Ty) (b : Int) : isTy t (.int b) = decide (t = .int) := by cases t <;> rfl
@[simp] theorem isTy_s (t : Ty) (b : List Nat) : isTy t (.str b) = decide (t = .str) := by cases t <;> rfl
@[simp] theorem isTy_t (t : Ty) (b : List D) : isTy t (.tup b) = decide (t = .tuple) := by cases t <;> rfl
@[simp] theorem isTy_l (t : Ty) (b : List D) : isTy t (.lst b) = decide (t = .list) := by cases t <;> rfl
@[simp] theorem isTy_d (t : Ty) (b : List (D × D)) : isTy t (.dic b) = decide (t = .dict) := by cases t <;> rfl

/-- the law's draws and its place in them -/
def W (ds : List Int) (i : Int) : R := .m [(.str [100, 114, 97, 119, 115], .lst (ds.map .int)), (.str [97, 116], .int i)]
/-- the next draw, below n -/
def nxt (ds : List Int) (i n : Int) : Int := if (ds.length : Int) < i + 1 then 0 else ds.getD i.toNat 0 % n
theorem nxt_lo (ds : List Int) (i n : Int) (h : 0 < n) : 0 ≤ nxt ds i n := by
  unfold nxt
  split
  · omega
  · exact Int.emod_nonneg _ (by omega)
theorem nxt_hi (ds : List Int) (i n : Int) (h : 0 < n) : nxt ds i n < n := by
  unfold nxt
  split
  · omega
  · exact Int.emod_lt_of_pos _ h
def bNext : Ss := (.cons (.augix 0 (.c (.str [97, 116])) .add (.c (.int 1))) (.cons (.ife (.op .gt (.cons (.op .ix (.cons (.v 0) (.cons (.c (.str [97, 116])) .nil))) (.cons (.op .len (.cons (.op .ix (.cons (.v 0) (.cons (.c (.str [100, 114, 97, 119, 115])) .nil))) .nil)) .nil))) (.cons (.ret (.c (.int 0))) .nil) .nil) (.cons (.ret (.op .mod (.cons (.op .intOf (.cons (.op .ix (.cons (.op .ix (.cons (.v 0) (.cons (.c (.str [100, 114, 97, 119, 115])) .nil))) (.cons (.op .sub (.cons (.op .ix (.cons (.v 0) (.cons (.c (.str [97, 116])) .nil))) (.cons (.c (.int 1)) .nil))) .nil))) .nil)) (.cons (.v 1) .nil)))) .nil)))
theorem next_eq {wh : (Env → Out Bool) → (Env → Fl) → Env → Fl} {tbl : Nat → Option Fn} {f : Nat} (ht : tbl f = some ⟨2, 2, [true, false], bNext⟩) (ds : List Int) (i n : Int) (k : Nat) (hn : 0 < n) (hi : 0 ≤ i) :
    callF wh tbl (k + 1) f [W ds i, .v (.int n)] = .ok (.v (.int (nxt ds i n))) [W ds (i + 1)] := by
  rw [callF_succ, ht]
  by_cases h : (ds.length : Int) < i + 1
  · simp! [bNext, W, nxt, h, small, lim]
  · have h1 : i < (ds.length : Int) := by omega
    have h2 : i.toNat < ds.length := by omega
    simp! [bNext, W, nxt, h, small, lim, ixN, hi, h1, h2, hn]

def bPick (n : Nat) : Ss := (.cons (.ret (.op .ix (.cons (.v 1) (.cons (.call n (.cons (.v 0) (.cons (.op .len (.cons (.v 1) .nil)) .nil))) .nil)))) .nil)
/-- a row's item by the next draw -/
def pck (ds : List Int) (i : Int) (l : List D) : D := l.getD (nxt ds i l.length).toNat .non
theorem pck_mem {ds : List Int} {i : Int} {l : List D} (h : l ≠ []) : pck ds i l ∈ l := by
  have hl : 0 < l.length := List.length_pos_iff.mpr h
  have h1 := nxt_lo ds i l.length (by omega)
  have h2 := nxt_hi ds i l.length (by omega)
  unfold pck
  have h3 : (nxt ds i l.length).toNat < l.length := by omega
  rw [List.getD_eq_getElem?_getD, List.getElem?_eq_getElem h3]
  exact List.getElem_mem h3
theorem pick_eq {wh : (Env → Out Bool) → (Env → Fl) → Env → Fl} {tbl : Nat → Option Fn} {f n : Nat} (ht : tbl f = some ⟨2, 2, [true, false], bPick n⟩) (hn : tbl n = some ⟨2, 2, [true, false], bNext⟩) (ds : List Int) (i : Int) (l : List D) (k : Nat) (hl : l ≠ []) (hi : 0 ≤ i) :
    callF wh tbl (k + 2) f [W ds i, .v (.lst l)] = .ok (.v (pck ds i l)) [W ds (i + 1)] := by
  have hl' : 0 < l.length := List.length_pos_iff.mpr hl
  have h1 := nxt_lo ds i l.length (by omega)
  have h2 := nxt_hi ds i l.length (by omega)
  have h3 : (nxt ds i l.length).toNat < l.length := by omega
  rw [callF_succ, ht]
  have e := next_eq (wh := wh) hn ds i l.length k (by omega) hi
  have eW : ∀ i, (W ds i).own = true := fun _ => rfl
  have eK : ∀ i, kind (W ds i).frz = 6 := fun _ => rfl
  simp! [bPick, hn, e, eW, ixN, h1, h2, pck, List.getElem?_eq_getElem h3]
theorem pick_eqT {wh : (Env → Out Bool) → (Env → Fl) → Env → Fl} {tbl : Nat → Option Fn} {f n : Nat} (ht : tbl f = some ⟨2, 2, [true, false], bPick n⟩) (hn : tbl n = some ⟨2, 2, [true, false], bNext⟩) (ds : List Int) (i : Int) (l : List D) (k : Nat) (hl : l ≠ []) (hi : 0 ≤ i) :
    callF wh tbl (k + 2) f [W ds i, .v (.tup l)] = .ok (.v (pck ds i l)) [W ds (i + 1)] := by
  have hl' : 0 < l.length := List.length_pos_iff.mpr hl
  have h1 := nxt_lo ds i l.length (by omega)
  have h2 := nxt_hi ds i l.length (by omega)
  have h3 : (nxt ds i l.length).toNat < l.length := by omega
  rw [callF_succ, ht]
  have e := next_eq (wh := wh) hn ds i l.length k (by omega) hi
  have eW : ∀ i, (W ds i).own = true := fun _ => rfl
  simp! [bPick, hn, e, eW, ixN, h1, h2, pck, List.getElem?_eq_getElem h3]

/-! ### the draws -/
def bTurn : Ss := (.cons (.ife (.op .gt (.cons (.v 6) (.cons (.c (.int 0)) .nil))) (.cons (.app 2 (.op .mod (.cons (.op .intOf (.cons (.v 6) .nil)) (.cons (.c (.int 997)) .nil)))) (.cons (.asg (.v 6) (.op .fdiv (.cons (.v 6) (.cons (.c (.int 997)) .nil)))) .nil)) .nil) .nil)
def sTurns : S := .for (.v 7) .range (.cons (.c (.int 60)) .nil) bTurn [7]
def bCell : Ss := (.cons (.asg (.v 5) (.op .abs (.cons (.op .intOf (.cons (.op .ix (.cons (.v 0) (.cons (.v 4) .nil))) .nil)) .nil))) (.cons (.asg (.v 3) (.op .mod (.cons (.op .intOf (.cons (.op .add (.cons (.op .add (.cons (.op .mul (.cons (.v 3) (.cons (.c (.int 48271)) .nil))) (.cons (.op .mod (.cons (.v 5) (.cons (.c (.int 1000003)) .nil))) .nil))) (.cons (.v 4) .nil))) .nil)) (.cons (.c (.int 65537)) .nil)))) (.cons (.asg (.v 6) (.c (.int 0))) (.cons (.ife (.op .ge (.cons (.v 5) (.cons (.op .pow (.cons (.c (.int 10)) (.cons (.c (.int 18)) .nil))) .nil))) (.cons (.asg (.v 6) (.v 5)) .nil) (.cons (.app 2 (.op .mod (.cons (.op .intOf (.cons (.v 5) .nil)) (.cons (.c (.int 997)) .nil)))) (.cons (.app 2 (.op .mod (.cons (.op .mod (.cons (.op .intOf (.cons (.op .add (.cons (.op .mul (.cons (.v 3) (.cons (.c (.int 69621)) .nil))) (.cons (.c (.int 5)) .nil))) .nil)) (.cons (.c (.int 65521)) .nil))) (.cons (.c (.int 997)) .nil)))) .nil))) (.cons sTurns .nil)))))
def bMore : Ss := (.cons (.asg (.v 3) (.op .mod (.cons (.op .intOf (.cons (.op .add (.cons (.op .add (.cons (.op .mul (.cons (.v 3) (.cons (.c (.int 16807)) .nil))) (.cons (.v 4) .nil))) (.cons (.c (.int 1)) .nil))) .nil)) (.cons (.c (.int 65537)) .nil)))) (.cons (.app 2 (.op .mod (.cons (.op .intOf (.cons (.v 3) .nil)) (.cons (.c (.int 997)) .nil)))) .nil))
def sCells : S := .for (.v 4) .range (.cons (.op .len (.cons (.v 0) .nil)) .nil) bCell [4, 5, 6, 7]
def sMores : S := .for (.v 4) .range (.cons (.v 1) .nil) bMore [4]
def bDraws : Ss := (.cons (.asg (.v 2) (.op .lst .nil)) (.cons (.asg (.v 3) (.c (.int 7))) (.cons sCells (.cons sMores (.cons (.ret (.op (.sl false true) (.cons (.v 2) (.cons (.v 1) .nil)))) .nil)))))
def Drawn (xs : List Int) : Prop := ∀ x ∈ xs, 0 ≤ x ∧ x < 997
theorem Drawn.snoc {xs : List Int} {x : Int} (h : Drawn xs) (h1 : 0 ≤ x) (h2 : x < 997) : Drawn (xs ++ [x]) := fun y hy => by
  rcases List.mem_append.mp hy with z | z
  · exact h y z
  · rw [List.mem_singleton.mp z]; exact ⟨h1, h2⟩
theorem evS_for' {C : Ctx} {t : T} {k : It} {es : Es} {b : Ss} {kill : List Nat} {σ : Env} : evS C (.for t k es b kill) σ = (srcOf C k es σ).fl fun ds σ => forL (fun d σ => match assign t (.v d) σ with
    | some σ => bodyK C b kill σ
    | none => .no) ds (forget kill σ) := evS_for
theorem turn_step {C : Ctx} {a b c m k cell : Option R} {xs : List Int} {rest d : Int} (hx : Drawn xs) (hl : xs.length < 10000) (h0 : 0 ≤ rest) :
    ∃ xs' rest', bodyK C bTurn [7] [a, b, some (.l (xs.map .int)), m, k, cell, some (.v (.int rest)), some (.v (.int d))] = .next [a, b, some (.l (xs'.map .int)), m, k, cell, some (.v (.int rest')), none] ∧ Drawn xs' ∧ xs'.length ≤ xs.length + 1 ∧ 0 ≤ rest' := by
  by_cases h : 0 < rest
  · refine ⟨xs ++ [rest % 997], rest / 997, ?_, hx.snoc (Int.emod_nonneg _ (by omega)) (Int.emod_lt_of_pos _ (by omega)), by simp!, by omega⟩
    have hs : xs.length < 16777216 := by omega
    simp! [bodyK, bTurn, h, small, lim, hs]
  · exact ⟨xs, rest, by simp! [bodyK, bTurn, h], hx, by omega, h0⟩

theorem turns {C : Ctx} {a b c m k cell : Option R} : ∀ {ds : List D} {xs : List Int} {rest : Int}, (∀ d ∈ ds, ∃ i, d = .int i) → Drawn xs → xs.length + ds.length < 10000 → 0 ≤ rest →
    ∃ xs' rest', forL (fun d σ => match assign (.v 7) (.v d) σ with
      | some σ => bodyK C bTurn [7] σ
      | none => .no) ds [a, b, some (.l (xs.map .int)), m, k, cell, some (.v (.int rest)), none] = .next [a, b, some (.l (xs'.map .int)), m, k, cell, some (.v (.int rest')), none] ∧ Drawn xs' ∧ xs'.length ≤ xs.length + ds.length
  | [], xs, rest, _, hx, _, _ => ⟨xs, rest, rfl, hx, Nat.le_refl _⟩
  | d :: ds, xs, rest, hd, hx, hl, h0 => by
    obtain ⟨i, rfl⟩ := hd d List.mem_cons_self
    rw [List.length_cons] at hl
    obtain ⟨xs1, rest1, e1, x1, l1, r1⟩ := turn_step (C := C) (a := a) (b := b) (c := c) (m := m) (k := k) (cell := cell) (d := i) hx (by omega) h0
    obtain ⟨xs2, rest2, e2, x2, l2⟩ := turns (C := C) (a := a) (b := b) (c := c) (m := m) (k := k) (cell := cell) (ds := ds) (fun d h => hd d (List.mem_cons_of_mem _ h)) x1 (by omega) r1
    refine ⟨xs2, rest2, ?_, x2, by rw [List.length_cons]; omega⟩
    rw [forL]
    simp only [assign, List.length_cons, List.length_nil, Nat.reduceAdd, Nat.reduceLT, if_true, List.set_cons_succ, List.set_cons_zero]
    rw [e1]
    exact e2
theorem turns_eq {C : Ctx} {a b c m k cell : Option R} {xs : List Int} {rest : Int} (hx : Drawn xs) (hl : xs.length < 9900) (h0 : 0 ≤ rest) :
    ∃ xs' rest', evS C sTurns [a, b, some (.l (xs.map .int)), m, k, cell, some (.v (.int rest)), c] = .next [a, b, some (.l (xs'.map .int)), m, k, cell, some (.v (.int rest')), none] ∧ Drawn xs' ∧ xs'.length ≤ xs.length + 60 := by
  have d60 : ∀ d ∈ rangeD 0 60, ∃ i, d = D.int i := fun d h => by
    obtain ⟨i, _, e⟩ := List.mem_map.mp h
    exact ⟨_, e.symm⟩
  have l60 : (rangeD 0 60).length = 60 := rfl
  obtain ⟨xs2, rest2, e2, x2, l2⟩ := turns (C := C) (a := a) (b := b) (c := none) (m := m) (k := k) (cell := cell) (ds := rangeD 0 60) (rest := rest) d60 hx (by omega) (by omega)
  have e2 := e2
  refine ⟨xs2, rest2, ?_, x2, by omega⟩
  unfold sTurns
  rw [evS_for]
  have e3 : srcOf C .range (.cons (.c (.int 60)) .nil) [a, b, some (.l (xs.map .int)), m, k, cell, some (.v (.int rest)), c] = .ok (rangeD 0 60) [a, b, some (.l (xs.map .int)), m, k, cell, some (.v (.int rest)), c] := by
    simp! [srcOf, inR]
  rw [e3]
  exact e2
theorem cell_step {C : Ctx} {sc : List Int} {m : Option R} {xs : List Int} {mixed j : Int} (hx : Drawn xs) (hl : xs.length < 9000) (h0 : 0 ≤ mixed) (hj : 0 ≤ j) (hj2 : j < sc.length) :
    ∃ xs' mixed', bodyK C bCell [4, 5, 6, 7] [some (.v (.lst (sc.map .int))), m, some (.l (xs.map .int)), some (.v (.int mixed)), some (.v (.int j)), none, none, none] = .next [some (.v (.lst (sc.map .int))), m, some (.l (xs'.map .int)), some (.v (.int mixed')), none, none, none, none] ∧
      Drawn xs' ∧ xs'.length ≤ xs.length + 62 ∧ 0 ≤ mixed' := by
  have hj3 : j.toNat < sc.length := by omega
  have hs : xs.length < 16777216 := by omega
  have hs2 : xs.length + 1 < 16777216 := by omega
  have hm : 0 ≤ (mixed * 48271 + (sc[j.toNat].natAbs : Int) % 1000003 + j) % 65537 := Int.emod_nonneg _ (by omega)
  by_cases h : (1000000000000000000 : Int) ≤ (sc[j.toNat].natAbs : Int)
  · obtain ⟨xs2, rest2, e2, x2, l2⟩ := turns_eq (C := C) (a := some (.v (.lst (sc.map .int)))) (b := m) (c := none) (m := some (.v (.int ((mixed * 48271 + (sc[j.toNat].natAbs : Int) % 1000003 + j) % 65537)))) (k := some (.v (.int j))) (cell := some (.v (.int sc[j.toNat].natAbs))) (rest := sc[j.toNat].natAbs) hx (by omega) (by omega)
    refine ⟨xs2, _, ?_, x2, by omega, hm⟩
    simp! [bodyK, bCell, ixN, hj, hj2, List.getElem?_eq_getElem hj3, mulOk, h, e2]
  · obtain ⟨xs2, rest2, e2, x2, l2⟩ := turns_eq (C := C) (a := some (.v (.lst (sc.map .int)))) (b := m) (c := none) (m := some (.v (.int ((mixed * 48271 + (sc[j.toNat].natAbs : Int) % 1000003 + j) % 65537)))) (k := some (.v (.int j))) (cell := some (.v (.int sc[j.toNat].natAbs))) (rest := 0)
      (xs := xs ++ [(sc[j.toNat].natAbs : Int) % 997] ++ [((mixed * 48271 + (sc[j.toNat].natAbs : Int) % 1000003 + j) % 65537 * 69621 + 5) % 65521 % 997])
      ((hx.snoc (Int.emod_nonneg _ (by omega)) (Int.emod_lt_of_pos _ (by omega))).snoc (Int.emod_nonneg _ (by omega)) (Int.emod_lt_of_pos _ (by omega))) (by simp!; omega) (by omega)
    refine ⟨xs2, _, ?_, x2, by simp! at l2; omega, hm⟩
    simp! at e2
    simp! [bodyK, bCell, ixN, hj, hj2, List.getElem?_eq_getElem hj3, mulOk, h, small, lim, hs, hs2, e2]

theorem range_at {n i : Nat} {d : D} (h : (rangeD 0 n)[i]? = some d) : i < n ∧ d = .int i := by
  unfold rangeD at h
  have hi : i < n := by
    have := (List.getElem?_eq_some_iff.mp h).1
    simpa using this
  rw [List.getElem?_map, List.getElem?_range (by simpa using hi)] at h
  cases h
  exact ⟨hi, by simp!⟩
theorem range_len (n : Nat) : (rangeD 0 n).length = n := by simp! [rangeD]
theorem inR_nat {n : Nat} (h : n ≤ 1000000) : inR (n : Int) = true := by
  unfold inR
  have e : (2 : Int) ^ 62 = 4611686018427387904 := by decide
  rw [e, Bool.and_eq_true, decide_eq_true_eq, decide_eq_true_eq]
  omega
theorem walk_range {b : Int} (h : inR b = true) : walk .range [.int b] = some (rangeD 0 b) := by
  show wRange [.int b] = _
  exact if_pos h
theorem src_range {C : Ctx} {es : Es} {σ σ' : Env} {b : Int} (he : evDs C es σ = .ok [.int b] σ') (hb : inR b = true) : srcOf C .range es σ = .ok (rangeD 0 b) σ' := by
  unfold srcOf
  rw [he]
  show ofO (wRange [.int b]) σ' = _
  rw [show wRange [.int b] = some (rangeD 0 b) from if_pos hb]
  rfl
theorem small_0 : small 0 = true := by decide
theorem small_of {n : Nat} (h : n < 16777216) : small n = true := decide_eq_true h
theorem cells_eq {C : Ctx} {sc : List Int} {m : Option R} {mixed : Int} (hs : sc.length ≤ 63) (h0 : 0 ≤ mixed) :
    ∃ xs' mixed', evS C sCells [some (.v (.lst (sc.map .int))), m, some (.l []), some (.v (.int mixed)), none, none, none, none] = .next [some (.v (.lst (sc.map .int))), m, some (.l (xs'.map .int)), some (.v (.int mixed')), none, none, none, none] ∧
      Drawn xs' ∧ xs'.length ≤ 62 * 63 ∧ 0 ≤ mixed' := by
  unfold sCells
  rw [evS_for]
  have e3 : srcOf C .range (.cons (.op .len (.cons (.v 0) .nil)) .nil) [some (.v (.lst (sc.map .int))), m, some (.l []), some (.v (.int mixed)), none, none, none, none] = .ok (rangeD 0 sc.length) [some (.v (.lst (sc.map .int))), m, some (.l []), some (.v (.int mixed)), none, none, none, none] := by
    exact src_range (by simp!) (inR_nat (by omega))
  rw [e3]
  simp only [Out.fl]
  obtain ⟨σ', e, xs, mixed', rfl, h1, h2, h3⟩ := forL_inv (fun j σ => ∃ xs mixed', σ = [some (.v (.lst (sc.map .int))), m, some (.l (xs.map .int)), some (.v (.int mixed')), none, none, none, none] ∧ Drawn xs ∧ xs.length ≤ 62 * j ∧ 0 ≤ mixed') (ds := rangeD 0 sc.length) (j := 0)
    (σ := forget [4, 5, 6, 7] [some (.v (.lst (sc.map .int))), m, some (.l []), some (.v (.int mixed)), none, none, none, none]) (body := fun d σ => match assign (.v 4) (.v d) σ with
      | some σ => bodyK C bCell [4, 5, 6, 7] σ
      | none => .no) (fun i d σ hd hI => by
        obtain ⟨xs, mixed', rfl, h1, h2, h3⟩ := hI
        obtain ⟨hi, rfl⟩ := range_at hd
        obtain ⟨xs2, m2, e2, x2, l2, g2⟩ := cell_step (C := C) (sc := sc) (m := m) (j := i) h1 (by omega) h3 (by omega) (by omega)
        refine ⟨_, .inl ?_, xs2, m2, rfl, x2, by omega, g2⟩
        simp only [assign, List.length_cons, List.length_nil, Nat.reduceAdd, Nat.reduceLT, if_true, List.set_cons_succ, List.set_cons_zero]
        exact e2) ⟨[], mixed, rfl, fun _ h => (by cases h), by simp!, h0⟩
  rw [range_len] at h2
  exact ⟨xs, mixed', e, h1, by omega, h3⟩
theorem more_step {C : Ctx} {a b : Option R} {xs : List Int} {mixed j : Int} (hx : Drawn xs) (hl : xs.length < 9000) (h0 : 0 ≤ mixed) :
    ∃ xs' mixed', bodyK C bMore [4] [a, b, some (.l (xs.map .int)), some (.v (.int mixed)), some (.v (.int j)), none, none, none] = .next [a, b, some (.l (xs'.map .int)), some (.v (.int mixed')), none, none, none, none] ∧ Drawn xs' ∧ xs'.length ≤ xs.length + 1 ∧ 0 ≤ mixed' := by
  have hs : xs.length < 16777216 := by omega
  refine ⟨xs ++ [(mixed * 16807 + j + 1) % 65537 % 997], (mixed * 16807 + j + 1) % 65537, ?_, hx.snoc (Int.emod_nonneg _ (by omega)) (Int.emod_lt_of_pos _ (by omega)), by simp!, Int.emod_nonneg _ (by omega)⟩
  simp! [bodyK, bMore, mulOk, small, lim, hs]
theorem mores_eq {C : Ctx} {a : Option R} {m : Nat} {xs : List Int} {mixed : Int} (hx : Drawn xs) (hl : xs.length ≤ 4000) (hm : m ≤ 1000) (h0 : 0 ≤ mixed) :
    ∃ xs' mixed', evS C sMores [a, some (.v (.int m)), some (.l (xs.map .int)), some (.v (.int mixed)), none, none, none, none] = .next [a, some (.v (.int m)), some (.l (xs'.map .int)), some (.v (.int mixed')), none, none, none, none] ∧ Drawn xs' := by
  unfold sMores
  rw [evS_for]
  have e3 : srcOf C .range (.cons (.v 1) .nil) [a, some (.v (.int m)), some (.l (xs.map .int)), some (.v (.int mixed)), none, none, none, none] = .ok (rangeD 0 m) [a, some (.v (.int m)), some (.l (xs.map .int)), some (.v (.int mixed)), none, none, none, none] := by
    exact src_range (by simp!) (inR_nat (by omega))
  rw [e3]
  simp only [Out.fl]
  obtain ⟨σ', e, xs', mixed', rfl, h1, h2, h3⟩ := forL_inv (fun j σ => ∃ xs' mixed', σ = [a, some (.v (.int m)), some (.l (xs'.map .int)), some (.v (.int mixed')), none, none, none, none] ∧ Drawn xs' ∧ xs'.length ≤ xs.length + j ∧ 0 ≤ mixed') (ds := rangeD 0 m) (j := 0)
    (σ := forget [4] [a, some (.v (.int m)), some (.l (xs.map .int)), some (.v (.int mixed)), none, none, none, none]) (body := fun d σ => match assign (.v 4) (.v d) σ with
      | some σ => bodyK C bMore [4] σ
      | none => .no) (fun i d σ hd hI => by
        obtain ⟨xs', mixed', rfl, h1, h2, h3⟩ := hI
        obtain ⟨hi, rfl⟩ := range_at hd
        obtain ⟨xs2, m2, e2, x2, l2, g2⟩ := more_step (C := C) (a := a) (b := some (.v (.int m))) (j := i) h1 (by omega) h3
        refine ⟨_, .inl ?_, xs2, m2, rfl, x2, by omega, g2⟩
        simp only [assign, List.length_cons, List.length_nil, Nat.reduceAdd, Nat.reduceLT, if_true, List.set_cons_succ, List.set_cons_zero]
        exact e2) ⟨xs, mixed, rfl, hx, by omega, h0⟩
  exact ⟨xs', mixed', e, h1⟩
theorem cut_map {α β : Type} (f : α → β) (l : List α) (lo hi : Option Int) : cut (l.map f) lo hi = (cut l lo hi).map f := by
  unfold cut
  rw [List.length_map, List.map_take, List.map_drop]
theorem evSs_next {C : Ctx} {s : S} {ss : Ss} {σ σ1 : Env} {fl : Fl} (h : evS C s σ = .next σ1) (h2 : evSs C ss σ1 = fl) : evSs C (.cons s ss) σ = fl := by rw [evSs, h]; exact h2
theorem evSs_ret {C : Ctx} {s : S} {ss : Ss} {σ σ1 : Env} {r : R} (h : evS C s σ = .ret r σ1) : evSs C (.cons s ss) σ = .ret r σ1 := by rw [evSs, h]; rfl
theorem draws_ev {C : Ctx} (ns : List Int) (m : Nat) (hs : ns.length ≤ 63) (hm : m ≤ 1000) :
    ∃ ds : List Int, (∃ a b σ', evSs C bDraws [some (.v (.lst (ns.map .int))), some (.v (.int m)), none, none, none, none, none, none] = .ret (.l (ds.map .int)) (a :: b :: σ')) ∧ Drawn ds := by
  obtain ⟨xs1, m1, e1, d1, l1, g1⟩ := cells_eq (C := C) (sc := ns) (m := some (.v (.int m))) (mixed := 7) hs (by omega)
  obtain ⟨xs2, m2, e2, d2⟩ := mores_eq (C := C) (a := some (.v (.lst (ns.map .int)))) (m := m) d1 (Nat.le_trans l1 (by decide)) hm g1
  refine ⟨cut xs2 none (some m), ⟨some (.v (.lst (ns.map .int))), some (.v (.int m)), [some (.l (xs2.map .int)), some (.v (.int m2)), none, none, none, none], ?_⟩, fun x hx => d2 x ?_⟩
  · have s1 : evS C (.asg (.v 2) (.op .lst .nil)) [some (.v (.lst (ns.map .int))), some (.v (.int m)), none, none, none, none, none, none] = .next [some (.v (.lst (ns.map .int))), some (.v (.int m)), some (.l []), none, none, none, none, none] := by simp! [small_0]
    have s2 : evS C (.asg (.v 3) (.c (.int 7))) [some (.v (.lst (ns.map .int))), some (.v (.int m)), some (.l []), none, none, none, none, none] = .next [some (.v (.lst (ns.map .int))), some (.v (.int m)), some (.l []), some (.v (.int 7)), none, none, none, none] := by simp!
    have s3 : evS C (.ret (.op (.sl false true) (.cons (.v 2) (.cons (.v 1) .nil)))) [some (.v (.lst (ns.map .int))), some (.v (.int m)), some (.l (xs2.map .int)), some (.v (.int m2)), none, none, none, none] = .ret (.l ((cut xs2 none (some (m : Int))).map .int)) [some (.v (.lst (ns.map .int))), some (.v (.int m)), some (.l (xs2.map .int)), some (.v (.int m2)), none, none, none, none] := by simp! [cut_map]
    exact evSs_next s1 (evSs_next s2 (evSs_next e1 (evSs_next e2 (evSs_ret s3))))
  · unfold cut at hx
    exact List.mem_of_mem_drop (List.mem_of_mem_take hx)
theorem draws_eq {wh : (Env → Out Bool) → (Env → Fl) → Env → Fl} {tbl : Nat → Option Fn} {f : Nat} (ht : tbl f = some ⟨2, 8, [false, false], bDraws⟩) (ns : List Int) (m k : Nat) (hs : ns.length ≤ 63) (hm : m ≤ 1000) :
    ∃ ds : List Int, callF wh tbl (k + 1) f [.v (.lst (ns.map .int)), .v (.int m)] = .ok (.l (ds.map .int)) [] ∧ Drawn ds := by
  obtain ⟨ds, ⟨a, b, σ', e⟩, hd⟩ := draws_ev (C := ⟨wh, callF wh tbl k, fun f => ((tbl f).map (·.io)).getD []⟩) ns m hs hm
  exact ⟨ds, callF_ret ht rfl rfl e backs_ff, hd⟩

/-! ### comprehensions that change nothing -/
theorem compL_pure {C : Ctx} {own : List Nat} {t : T} {cs : Es} {g : Gs} {σ : Env} (f : D → List D) (B : Nat) : ∀ {ds acc : List D}, (∀ d ∈ ds, ∀ acc : List D, acc.length ≤ B → turn1 C own t cs g d σ acc = .ok (acc ++ f d) σ) → acc.length + (ds.flatMap f).length ≤ B →
    compL (turn1 C own t cs g) ds σ acc = .ok (acc ++ ds.flatMap f) σ
  | [], acc, _, _ => by simp! [compL]
  | d :: ds, acc, h, hB => by
    rw [List.flatMap_cons, List.length_append] at hB
    have e := h d List.mem_cons_self acc (by omega)
    have ih := compL_pure (C := C) (own := own) (t := t) (cs := cs) (g := g) (σ := σ) f B (ds := ds) (acc := acc ++ f d) (fun d hd => h d (List.mem_cons_of_mem _ hd)) (by rw [List.length_append]; omega)
    rw [compL, e]
    simp only [Out.bind]
    rw [ih, List.flatMap_cons, List.append_assoc]
theorem ev_comp_of {C : Ctx} {own : List Nat} {t : T} {k : It} {es cs : Es} {g : Gs} {σ σ1 σ2 : Env} {qs ds out : List D} (he : evDs C es σ = .ok qs σ1) (hn : noOwn σ1 own = true) (hw : walk k qs = some ds) (hc : compL (turn1 C own t cs g) ds (forget own σ1) [] = .ok out σ2) :
    ev C (.comp own t k es cs g) σ = .ok (.l out) (restore σ1 own σ2) := by
  rw [ev_comp, he]
  simp only [Out.bind, hn, if_true, hw, ofO, hc]
/-! ### a thing is the same as itself -/
mutual
def sz : D → Nat
  | .tup l => szs l + 1
  | .lst l => szs l + 1
  | _ => 1
def szs : List D → Nat
  | [] => 0
  | a :: l => sz a + szs l
end
def eKeys1 : E := .comp [6] (.v 6) .val (.cons (.v 4) .nil) (.cons (.op .nin (.cons (.v 6) (.cons (.v 3) .nil))) .nil) (.elt (.v 6))
def ssDict : Ss := (.cons (.ife (.or (.not (.op (.isi .dict) (.cons (.v 3) .nil))) (.or (.op .ne (.cons (.op .len (.cons (.v 3) .nil)) (.cons (.op .len (.cons (.v 4) .nil)) .nil))) (.op .ne (.cons eKeys1 (.cons (.op .lst .nil) .nil))))) (.cons (.ret (.c (.bl false))) .nil) .nil) (.cons (.asg (.v 5) (.op .dictOf (.cons (.comp [6] (.v 6) .val (.cons (.v 3) .nil) .nil (.elt (.op .tup (.cons (.v 6) (.cons (.v 6) .nil))))) .nil))) (.cons (.ext 2 (.op .add (.cons (.comp [6] (.v 6) .val (.cons (.v 4) .nil) .nil (.elt (.op .tup (.cons (.op .ix (.cons (.v 3) (.cons (.v 6) .nil))) (.cons (.op .ix (.cons (.v 4) (.cons (.v 6) .nil))) .nil))))) (.cons (.comp [6] (.v 6) .val (.cons (.v 4) .nil) .nil (.elt (.op .tup (.cons (.op .ix (.cons (.v 5) (.cons (.v 6) .nil))) (.cons (.v 6) .nil))))) .nil)))) .nil)))
def eParts : E := .comp [7] (.v 7) .range (.cons (.op .len (.cons (.v 4) .nil)) .nil) .nil (.elt (.op .tup (.cons (.op .ix (.cons (.v 3) (.cons (.v 7) .nil))) (.cons (.op .ix (.cons (.v 4) (.cons (.v 7) .nil))) .nil))))
def bSame1 : Ss := (.cons (.asg (.t [(.v 3), (.v 4)]) (.pop 2)) (.cons (.ife (.op (.isi .dict) (.cons (.v 4) .nil)) ssDict (.cons (.ife (.or (.op (.isi .tuple) (.cons (.v 4) .nil)) (.op (.isi .list) (.cons (.v 4) .nil))) (.cons (.ife (.or (.op .ne (.cons (.op (.isi .tuple) (.cons (.v 3) .nil)) (.cons (.op (.isi .tuple) (.cons (.v 4) .nil)) .nil))) (.or (.op .ne (.cons (.op (.isi .list) (.cons (.v 3) .nil)) (.cons (.op (.isi .list) (.cons (.v 4) .nil)) .nil))) (.op .ne (.cons (.op .len (.cons (.v 3) .nil)) (.cons (.op .len (.cons (.v 4) .nil)) .nil))))) (.cons (.ret (.c (.bl false))) .nil) .nil) (.cons (.ext 2 eParts) .nil)) (.cons (.ife (.or (.op .ne (.cons (.op (.isi .bool) (.cons (.v 3) .nil)) (.cons (.op (.isi .bool) (.cons (.v 4) .nil)) .nil))) (.or (.op .ne (.cons (.op (.isi .int) (.cons (.v 3) .nil)) (.cons (.op (.isi .int) (.cons (.v 4) .nil)) .nil))) (.or (.op .ne (.cons (.op (.isi .str) (.cons (.v 3) .nil)) (.cons (.op (.isi .str) (.cons (.v 4) .nil)) .nil))) (.op .ne (.cons (.v 3) (.cons (.v 4) .nil)))))) (.cons (.ret (.c (.bl false))) .nil) .nil) .nil)) .nil)) .nil))
def eMore : E := .op .ne (.cons (.v 2) (.cons (.op .lst .nil) .nil))
def bSame : Ss := (.cons (.asg (.v 2) (.op .lst (.cons (.op .tup (.cons (.v 0) (.cons (.v 1) .nil))) .nil))) (.cons (.whl eMore bSame1 [3, 4, 5]) (.cons (.ret (.c (.bl true))) .nil)))
def prs (ws : List D) : List D := ws.map fun x => .tup [x, x]
theorem noDics_at : ∀ {l : List D}, noDics l = true → ∀ d ∈ l, noDic d = true
  | [], _, d, h => by cases h
  | a :: l, h, d, hd => by
    simp only [noDics, Bool.and_eq_true] at h
    rcases List.mem_cons.mp hd with e | e
    · rw [e]; exact h.1
    · exact noDics_at h.2 d e
theorem dep_at : ∀ {l : List D} {d : D}, d ∈ l → dep d ≤ deps l
  | [], d, h => by cases h
  | a :: l, d, hd => by
    simp only [deps]
    rcases List.mem_cons.mp hd with e | e
    · rw [e]; omega
    · have := dep_at e; omega
theorem deps_le : ∀ {l : List D} {n : Nat}, (∀ d ∈ l, dep d ≤ n) → deps l ≤ n
  | [], n, _ => by simp! [deps]
  | a :: l, n, h => by
    simp only [deps]
    have h1 := h a List.mem_cons_self
    have h2 := deps_le (l := l) fun d hd => h d (List.mem_cons_of_mem _ hd)
    omega
theorem noDics_of : ∀ {l : List D}, (∀ d ∈ l, noDic d = true) → noDics l = true
  | [], _ => rfl
  | a :: l, h => by
    simp only [noDics, Bool.and_eq_true]
    exact ⟨h a List.mem_cons_self, noDics_of fun d hd => h d (List.mem_cons_of_mem _ hd)⟩
theorem prs_good {ws : List D} (h : ∀ d ∈ ws, noDic d = true ∧ dep d ≤ 50) : noDics (prs ws) = true ∧ deps (prs ws) ≤ 51 := by
  refine ⟨noDics_of fun d hd => ?_, deps_le fun d hd => ?_⟩
  · obtain ⟨x, hx, rfl⟩ := List.mem_map.mp hd
    simp! [noDic, noDics, (h x hx).1]
  · obtain ⟨x, hx, rfl⟩ := List.mem_map.mp hd
    have := (h x hx).2
    simp only [dep, deps]
    omega
theorem more_eq {C : Ctx} {a b : Option R} {ws : List D} (h : ∀ d ∈ ws, noDic d = true ∧ dep d ≤ 50) : evT C eMore [a, b, some (.l (prs ws)), none, none, none, none, none] = .ok (!ws.isEmpty) [a, b, some (.l (prs ws)), none, none, none, none, none] := by
  obtain ⟨h1, h2⟩ := prs_good h
  have h3 : dep (.lst (prs ws)) ≤ 60 := by simp only [dep]; omega
  have h4 : noDic (.lst (prs ws)) = true := h1
  have h5 : eqs (.lst (prs ws)) (.lst []) = ws.isEmpty := by
    cases ws <;> rfl
  have h6 : noDic (.lst []) = true := rfl
  have h7 : dep (.lst []) ≤ 60 := by decide
  simp! [eMore, small_0, h3, h4, h5, h6, h7]

def kids : D → List D
  | .tup l => l
  | .lst l => l
  | _ => []
theorem flatMap_cong {α β : Type} {l : List α} {f g : α → List β} (h : ∀ x ∈ l, f x = g x) : l.flatMap f = l.flatMap g := by
  rw [List.flatMap_def, List.flatMap_def, List.map_congr_left h]
theorem flatMap_one {α β : Type} {l : List α} {f : α → β} : (l.flatMap fun x => [f x]) = l.map f := by
  induction l with
  | nil => rfl
  | cons a l ih => rw [List.flatMap_cons, ih]; rfl
theorem range_flat {l : List D} (f : D → List D) (h : ∀ (k : Nat) (x : D), l[k]? = some x → f (.int k) = [.tup [x, x]]) : (rangeD 0 l.length).flatMap f = prs l := by
  have e : rangeD 0 (l.length : Int) = (List.range l.length).map fun (k : Nat) => D.int k := by
    unfold rangeD
    simp!
  rw [e, List.flatMap_map]
  have e1 : (List.range l.length).flatMap (fun (a : Nat) => f (D.int (a : Int))) = (List.range l.length).flatMap fun k => [D.tup [l.getD k .non, l.getD k .non]] := flatMap_cong fun k hk => by
    have hk' := List.mem_range.mp hk
    rw [h k l[k] (List.getElem?_eq_getElem hk'), List.getD_eq_getElem?_getD, List.getElem?_eq_getElem hk']
    rfl
  rw [e1, flatMap_one]
  unfold prs
  apply List.ext_getElem?
  intro i
  rw [List.getElem?_map, List.getElem?_map]
  by_cases hi : i < l.length
  · rw [List.getElem?_range hi, List.getElem?_eq_getElem hi]
    simp! [List.getD_eq_getElem?_getD, List.getElem?_eq_getElem hi]
  · rw [List.getElem?_eq_none (by simpa using hi), List.getElem?_eq_none (by simpa using hi)]
    rfl
theorem parts_eq {C : Ctx} {a b c e : Option R} {x : D} {l : List D} (hx : x = .tup l ∨ x = .lst l) (hl : l.length ≤ 100000) :
    ev C eParts [a, b, c, some (.v x), some (.v x), e, none, none] = .ok (.l (prs l)) [a, b, c, some (.v x), some (.v x), e, none, none] := by
  have hs : small l.length = true := small_of (by omega)
  have he : evDs C (.cons (.op .len (.cons (.v 4) .nil)) .nil) [a, b, c, some (.v x), some (.v x), e, none, none] = .ok [.int l.length] [a, b, c, some (.v x), some (.v x), e, none, none] := by
    rcases hx with rfl | rfl <;> simp!
  have hw : walk .range [.int l.length] = some (rangeD 0 l.length) := walk_range (inR_nat (by omega))
  have := ev_comp_of (C := C) (own := [7]) (t := .v 7) (k := .range) (cs := .nil) (g := .elt (.op .tup (.cons (.op .ix (.cons (.v 3) (.cons (.v 7) .nil))) (.cons (.op .ix (.cons (.v 4) (.cons (.v 7) .nil))) .nil)))) he rfl hw
    (compL_pure (C := C) (σ := [a, b, c, some (.v x), some (.v x), e, none, none]) (fun d => match d with
      | .int k => [.tup [l.getD k.toNat .non, l.getD k.toNat .non]]
      | _ => []) 100000 (ds := rangeD 0 l.length) (acc := []) (fun d hd acc ha => ?_) ?_)
  · rw [range_flat _ (fun k x hk => by simp! [List.getD_eq_getElem?_getD, hk])] at this
    exact this
  · obtain ⟨i, hi⟩ := List.getElem?_of_mem hd
    obtain ⟨h1, rfl⟩ := range_at hi
    have h2 : i < l.length := h1
    have h3 : small acc.length = true := small_of (by omega)
    have h4 : small 2 = true := small_of (by omega)
    rcases hx with rfl | rfl <;> simp! [turn1, evG, ixN, h2, h3, h4, List.getElem?_eq_getElem h2, List.getD_eq_getElem?_getD]
  · rw [range_flat _ (fun k x hk => by simp! [List.getD_eq_getElem?_getD, hk])]
    simp! [prs]
    exact hl

theorem prs_snoc (ws : List D) (x : D) : prs (ws ++ [x]) = prs ws ++ [.tup [x, x]] := by simp! [prs]
theorem prs_app (ws l : List D) : prs ws ++ prs l = prs (ws ++ l) := by simp! [prs]
mutual
theorem eqs_refl : ∀ d : D, noDic d = true → eqs d d = true
  | .non, _ => rfl
  | .bl b, _ => by simp! [eqs]
  | .int b, _ => by simp! [eqs]
  | .str b, _ => by simp! [eqs]
  | .tup l, h => by simp only [eqs]; exact eqsL_refl l h
  | .lst l, h => by simp only [eqs]; exact eqsL_refl l h
  | .dic _, h => by cases h
theorem eqsL_refl : ∀ l : List D, noDics l = true → eqsL l l = true
  | [], _ => rfl
  | a :: l, h => by
    simp only [noDics, Bool.and_eq_true] at h
    simp only [eqsL, Bool.and_eq_true]
    exact ⟨eqs_refl a h.1, eqsL_refl l h.2⟩
end
theorem evSs_nil' {C : Ctx} {σ : Env} : evSs C .nil σ = .next σ := by rw [evSs]
theorem ife_t {C : Ctx} {c : E} {x y : Ss} {σ σ1 : Env} {fl : Fl} (h : evT C c σ = .ok true σ1) (h2 : evSs C x σ1 = fl) : evS C (.ife c x y) σ = fl := by rw [evS, h]; exact h2
theorem ife_f {C : Ctx} {c : E} {x y : Ss} {σ σ1 : Env} {fl : Fl} (h : evT C c σ = .ok false σ1) (h2 : evSs C y σ1 = fl) : evS C (.ife c x y) σ = fl := by rw [evS, h]; exact h2
theorem bodyK_next {C : Ctx} {b : Ss} {kill : List Nat} {σ σ1 : Env} (h : evSs C b σ = .next σ1) : bodyK C b kill σ = .next (forget kill σ1) := by rw [bodyK, h]
def cRow : E := (.or (.op (.isi .tuple) (.cons (.v 4) .nil)) (.op (.isi .list) (.cons (.v 4) .nil)))
def cUnlike : E := (.or (.op .ne (.cons (.op (.isi .tuple) (.cons (.v 3) .nil)) (.cons (.op (.isi .tuple) (.cons (.v 4) .nil)) .nil))) (.or (.op .ne (.cons (.op (.isi .list) (.cons (.v 3) .nil)) (.cons (.op (.isi .list) (.cons (.v 4) .nil)) .nil))) (.op .ne (.cons (.op .len (.cons (.v 3) .nil)) (.cons (.op .len (.cons (.v 4) .nil)) .nil)))))
theorem same_pop {C : Ctx} {a b : Option R} {us : List D} {x : D} : evS C (.asg (.t [(.v 3), (.v 4)]) (.pop 2)) [a, b, some (.l (us ++ [.tup [x, x]])), none, none, none, none, none] = .next [a, b, some (.l us), some (.v x), some (.v x), none, none, none] := by simp!
theorem same_dict {C : Ctx} {a b c : Option R} {x : D} (hx : isTy .dict x = false) : evT C (.op (.isi .dict) (.cons (.v 4) .nil)) [a, b, c, some (.v x), some (.v x), none, none, none] = .ok false [a, b, c, some (.v x), some (.v x), none, none, none] := by simp! [hx]
theorem same_isrow {C : Ctx} {a b c : Option R} {l : List D} {x : D} (hx : x = .tup l ∨ x = .lst l) : evT C cRow [a, b, c, some (.v x), some (.v x), none, none, none] = .ok true [a, b, c, some (.v x), some (.v x), none, none, none] := by
  rcases hx with rfl | rfl <;> simp! [cRow]
theorem same_like {C : Ctx} {a b c : Option R} {l : List D} {x : D} (hx : x = .tup l ∨ x = .lst l) : evT C cUnlike [a, b, c, some (.v x), some (.v x), none, none, none] = .ok false [a, b, c, some (.v x), some (.v x), none, none, none] := by
  rcases hx with rfl | rfl <;> simp! [cUnlike, eqs, noDic, dep]
theorem same_ext {C : Ctx} {a b : Option R} {us vs : List D} {x : D} (hp : ev C eParts [a, b, some (.l us), some (.v x), some (.v x), none, none, none] = .ok (.l vs) [a, b, some (.l us), some (.v x), some (.v x), none, none, none]) (hs : us.length + vs.length < 16777216) : evS C (.ext 2 eParts) [a, b, some (.l us), some (.v x), some (.v x), none, none, none] = .next [a, b, some (.l (us ++ vs)), some (.v x), some (.v x), none, none, none] := by
  have h : small (us.length + vs.length) = true := small_of hs
  simp only [evS, get, List.getElem?_cons_succ, List.getElem?_cons_zero, Option.join_some, hp, Out.fl]
  rw [if_pos h]
  rfl
theorem same_row {C : Ctx} {a b : Option R} {us vs l : List D} {x : D} (hx : x = .tup l ∨ x = .lst l) (hp : ev C eParts [a, b, some (.l us), some (.v x), some (.v x), none, none, none] = .ok (.l vs) [a, b, some (.l us), some (.v x), some (.v x), none, none, none]) (hs : us.length + vs.length < 16777216) :
    bodyK C bSame1 [3, 4, 5] [a, b, some (.l (us ++ [.tup [x, x]])), none, none, none, none, none] = .next [a, b, some (.l (us ++ vs)), none, none, none, none, none] := by
  refine bodyK_next (σ1 := [a, b, some (.l (us ++ vs)), some (.v x), some (.v x), none, none, none]) ?_
  refine evSs_next same_pop (evSs_next (ife_f (same_dict (by rcases hx with rfl | rfl <;> rfl)) ?_) evSs_nil')
  refine evSs_next (ife_t (same_isrow hx) ?_) evSs_nil'
  exact evSs_next (ife_f (same_like hx) evSs_nil') (evSs_next (same_ext hp hs) evSs_nil')
theorem same_flat {C : Ctx} {a b : Option R} {us : List D} {x : D} (hx : x = .non ∨ (∃ z, x = .bl z) ∨ (∃ z, x = .int z) ∨ ∃ z, x = .str z) :
    bodyK C bSame1 [3, 4, 5] [a, b, some (.l (us ++ [.tup [x, x]])), none, none, none, none, none] = .next [a, b, some (.l us), none, none, none, none, none] := by
  rcases hx with rfl | ⟨z, rfl⟩ | ⟨z, rfl⟩ | ⟨z, rfl⟩ <;> simp! [bodyK, bSame1, eqs, noDic, dep]
theorem same_step {C : Ctx} {a b : Option R} {ws : List D} {x : D} (hx : noDic x = true) (hd : dep x ≤ 50) (hl : (kids x).length + ws.length ≤ 90000) :
    bodyK C bSame1 [3, 4, 5] [a, b, some (.l (prs (ws ++ [x]))), none, none, none, none, none] = .next [a, b, some (.l (prs (ws ++ kids x))), none, none, none, none, none] := by
  have lw : ∀ l, (prs l).length = l.length := fun l => by simp! [prs]
  rw [prs_snoc, ← prs_app]
  cases x with
  | dic _ => cases hx
  | tup l =>
    simp only [kids] at hl ⊢
    exact same_row (.inl rfl) (parts_eq (.inl rfl) (by omega)) (by rw [lw, lw]; omega)
  | lst l =>
    simp only [kids] at hl ⊢
    exact same_row (.inr rfl) (parts_eq (.inr rfl) (by omega)) (by rw [lw, lw]; omega)
  | non => rw [same_flat (.inl rfl), kids, show prs [] = [] from rfl, List.append_nil] <;> simp!
  | bl z => rw [same_flat (.inr (.inl ⟨z, rfl⟩)), kids, show prs [] = [] from rfl, List.append_nil] <;> simp!
  | int z => rw [same_flat (.inr (.inr (.inl ⟨z, rfl⟩))), kids, show prs [] = [] from rfl, List.append_nil] <;> simp!
  | str z => rw [same_flat (.inr (.inr (.inr ⟨z, rfl⟩))), kids, show prs [] = [] from rfl, List.append_nil] <;> simp!
theorem szs_app : ∀ l m : List D, szs (l ++ m) = szs l + szs m
  | [], m => by simp! [szs]
  | a :: l, m => by simp only [List.cons_append, szs, szs_app l m]; omega
theorem sz_kids (d : D) : szs (kids d) + 1 ≤ sz d := by cases d <;> simp! [kids, sz, szs]
theorem len_szs : ∀ l : List D, l.length ≤ szs l
  | [] => Nat.le_refl _
  | a :: l => by
    have := len_szs l
    have h1 : 1 ≤ sz a := by cases a <;> simp! [sz]
    simp only [List.length_cons, szs]
    omega
theorem kids_good {x : D} (hx : noDic x = true) (hd : dep x ≤ 50) : ∀ d ∈ kids x, noDic d = true ∧ dep d ≤ 50 := fun d h => by
  cases x with
  | tup l =>
    have h1 := noDics_at hx d h
    have h2 := dep_at (show d ∈ l from h)
    simp only [dep] at hd
    exact ⟨h1, by omega⟩
  | lst l =>
    have h1 := noDics_at hx d h
    have h2 := dep_at (show d ∈ l from h)
    simp only [dep] at hd
    exact ⟨h1, by omega⟩
  | _ => cases h
theorem same_loop {C : Ctx} {a b : Option R} : ∀ (n : Nat) (ws : List D), szs ws ≤ n → n ≤ 90000 → (∀ d ∈ ws, noDic d = true ∧ dep d ≤ 50) →
    whileW (evT C eMore) (bodyK C bSame1 [3, 4, 5]) [a, b, some (.l (prs ws)), none, none, none, none, none] = .next [a, b, some (.l []), none, none, none, none, none] := by
  intro n
  induction n with
  | zero =>
    intro ws h _ hg
    have : ws = [] := List.length_eq_zero_iff.mp (by have := len_szs ws; omega)
    subst this
    rw [whileW_eq, more_eq hg]
    rfl
  | succ n ih =>
    intro ws h hn hg
    rw [whileW_eq, more_eq hg]
    cases hw : ws.isEmpty with
    | true =>
      have : ws = [] := List.isEmpty_iff.mp hw
      subst this
      rfl
    | false =>
      have hne : ws ≠ [] := fun z => by subst z; cases hw
      obtain ⟨ws', x, rfl⟩ : ∃ ws' x, ws = ws' ++ [x] := ⟨ws.dropLast, ws.getLast hne, (List.dropLast_concat_getLast hne).symm⟩
      have gx := hg x (by simp!)
      rw [szs_app] at h
      simp only [szs] at h
      have hk := sz_kids x
      have hl1 := len_szs (kids x)
      have hl2 := len_szs ws'
      simp only [Bool.not_false, Out.fl, if_true]
      rw [same_step gx.1 gx.2 (by omega)]
      simp only
      refine ih (ws' ++ kids x) (by rw [szs_app]; omega) (by omega) fun d hd => ?_
      rcases List.mem_append.mp hd with z | z
      · exact hg d (by simp! [z])
      · exact kids_good gx.1 gx.2 d z
theorem same_eq {tbl : Nat → Option Fn} {f : Nat} (ht : tbl f = some ⟨2, 8, [false, false], bSame⟩) (d : D) (k : Nat) (h1 : noDic d = true) (h2 : dep d ≤ 50) (h3 : sz d ≤ 90000) : callF whileW tbl (k + 1) f [.v d, .v d] = .ok (.v (.bl true)) [] := by
  refine callF_ret ht rfl rfl (r := .v (.bl true)) (σ' := [some (.v d), some (.v d), some (.l []), none, none, none, none, none]) ?_ backs_ff
  have s1 : ∀ C : Ctx, evS C (.asg (.v 2) (.op .lst (.cons (.op .tup (.cons (.v 0) (.cons (.v 1) .nil))) .nil))) [some (.v d), some (.v d), none, none, none, none, none, none] = .next [some (.v d), some (.v d), some (.l (prs [d])), none, none, none, none, none] := fun C => by
    have e1 : small 1 = true := small_of (by omega)
    have e2 : small 2 = true := small_of (by omega)
    simp! [e1, e2, prs]
  refine evSs_next (s1 _) (evSs_next (σ1 := [some (.v d), some (.v d), some (.l []), none, none, none, none, none]) ?_ (evSs_ret ?_))
  · rw [evS_whl]
    exact same_loop (sz d) [d] (by simp! [szs]) h3 fun x hx => by rw [List.mem_singleton.mp hx]; exact ⟨h1, h2⟩
  · simp!

/-! ### comprehensions as map and filter -/
theorem ev_filter {C : Ctx} {own : List Nat} {t : T} {k : It} {es : Es} {c e : E} {σ σ1 : Env} {qs ds : List D} (p : D → Bool) (g : D → D) (he : evDs C es σ = .ok qs σ1) (hi : walk k qs = some ds) (hn : noOwn σ1 own = true) (hl : ds.length ≤ 100000)
    (ht : ∀ x ∈ ds, ∃ σx, assign t (.v x) (forget own σ1) = some σx ∧ evT C c σx = .ok (p x) σx ∧ (p x = true → ∃ r, ev C e σx = .ok r σx ∧ r.frz = g x) ∧ forget own σx = forget own σ1) :
    ev C (.comp own t k es (.cons c .nil) (.elt e)) σ = .ok (.l ((ds.filter p).map g)) (restore σ1 own (forget own σ1)) := by
  have e0 : (ds.filter p).map g = [] ++ ds.flatMap fun x => if p x = true then [g x] else [] := by
    rw [List.nil_append]
    clear ht hi he hl
    induction ds with
    | nil => rfl
    | cons a l ih =>
      rw [List.flatMap_cons, ← ih, List.filter_cons]
      split <;> simp!
  rw [e0]
  refine ev_comp_of he hn hi (compL_pure (fun x => if p x = true then [g x] else []) 100000 (fun d hd acc ha => ?_) ?_)
  · obtain ⟨σx, a1, a2, a3, a4⟩ := ht d hd
    unfold turn1
    rw [a1]
    simp only
    rw [show evC C (.cons c .nil) σx = evT C c σx from evC_one σx, a2]
    simp only [Out.bind]
    cases hp : p d with
    | false => simp! [a4]
    | true =>
      obtain ⟨r, b1, b2⟩ := a3 hp
      have hs : small acc.length = true := small_of (by omega)
      simp only [if_true, evG, b1, Out.bind]
      rw [if_pos hs]
      simp! [a4, b2]
  · rw [← List.nil_append (List.flatMap _ ds), ← e0] 
    have : (ds.filter p).length ≤ ds.length := List.length_filter_le _ _
    simp!
    omega
theorem ev_map {C : Ctx} {own : List Nat} {t : T} {k : It} {es : Es} {e : E} {σ σ1 : Env} {qs ds : List D} (g : D → D) (he : evDs C es σ = .ok qs σ1) (hi : walk k qs = some ds) (hn : noOwn σ1 own = true) (hl : ds.length ≤ 100000)
    (ht : ∀ x ∈ ds, ∃ σx, assign t (.v x) (forget own σ1) = some σx ∧ (∃ r, ev C e σx = .ok r σx ∧ r.frz = g x) ∧ forget own σx = forget own σ1) :
    ev C (.comp own t k es .nil (.elt e)) σ = .ok (.l (ds.map g)) (restore σ1 own (forget own σ1)) := by
  have e0 : ds.map g = [] ++ ds.flatMap fun x => [g x] := by rw [List.nil_append, flatMap_one]
  rw [e0]
  refine ev_comp_of he hn hi (compL_pure (fun x => [g x]) 100000 (fun d hd acc ha => ?_) ?_)
  · obtain ⟨σx, a1, ⟨r, b1, b2⟩, a4⟩ := ht d hd
    have hs : small acc.length = true := small_of (by omega)
    unfold turn1
    rw [a1]
    simp only [evC, Out.bind, if_true, evG, b1]
    rw [if_pos hs]
    simp! [a4, b2]
  · rw [flatMap_one, List.length_map]
    simpa using hl
theorem toBools_map {α : Type} (p : α → Bool) : ∀ l : List α, toBools (l.map fun x => .bl (p x)) = some (l.map p)
  | [] => rfl
  | a :: l => by simp only [List.map_cons, toBools, toBools_map p l, Option.map_some]
theorem all_map {α : Type} (p : α → Bool) (l : List α) : o_all [.lst (l.map fun x => .bl (p x))] = some (.v (.bl (l.all p))) := by
  simp! [o_all, toBools_map]
theorem any_map {α : Type} (p : α → Bool) (l : List α) : o_any [.lst (l.map fun x => .bl (p x))] = some (.v (.bl (l.any p))) := by
  simp! [o_any, toBools_map]
end Pv
end
section
set_option Elab.async false
set_option linter.all false
namespace Tk06
open Pv
noncomputable abbrev cf (k f : Nat) (rs : List R) : CR := callF whileW tbl k f rs
end Tk06
end
section
/-! PvT: expressions that change nothing, as plain functions of what the names hold. -/
namespace Pu
open Pv

/-- a comprehension's items, row by row -/
def flatM {α β : Type} (f : α → Option (List β)) : List α → Option (List β)
  | [] => some []
  | d :: ds => (f d).bind fun l => (flatM f ds).map (l ++ ·)
def vget : Option R → Option R
  | some (.v d) => some (.v d)
  | _ => none
def rbl : R → Option Bool
  | .v (.bl x) => some x
  | _ => none
def crv : CR → Option R
  | .ok r _ => some r
  | .no => none
def rowL (out : List D) : Option R := if out.length ≤ lim then some (.l out) else none
def subL (a b : List Nat) : Bool := a.all fun i => b.contains i
def isElt : Gs → Bool
  | .elt _ => true
  | _ => false
def slotsG : Gs → List Nat
  | .elt _ => []
  | .cons t _ _ _ g => t.slots ++ slotsG g
section
variable (C : Ctx)
mutual
def pv : E → Env → Option R
  | .c d, _ => some (.v d)
  | .v i, σ => vget (get σ i)
  | .op o es, σ => if o.keeps then (pvDs es σ).bind (opD o) else (pvPs es σ).bind (opD o)
  | .and a b, σ => ((pv a σ).bind rbl).bind fun x => if x then pv b σ else some (.v (.bl false))
  | .or a b, σ => ((pv a σ).bind rbl).bind fun x => if x then some (.v (.bl true)) else pv b σ
  | .not a, σ => ((pv a σ).bind rbl).map fun x => .v (.bl (!x))
  | .ife c a b, σ => ((pv c σ).bind rbl).bind fun x => if x then pv a σ else pv b σ
  | .call f es, σ => (pvAs (C.io f) es σ).bind fun rs => crv (C.cf f rs)
  | .comp own t k es cs g, σ => if noOwn σ own && subL (t.slots ++ slotsG g) own then (pvDs es σ).bind fun qs => (walk k qs).bind fun ds =>
      (flatM (fun d => (assign t (.v d) (forget own σ)).bind fun σ' => (pvC cs σ').bind fun b => if b then pvG g σ' else some []) ds).bind rowL else none
  | .pop _, _ => none
def pvPs : Es → Env → Option (List D)
  | .nil, _ => some []
  | .cons (.v i) es, σ => (get σ i).bind fun r => (pvPs es σ).map fun ds => r.frz :: ds
  | .cons e es, σ => (pv e σ).bind fun r => (pvPs es σ).map fun ds => r.frz :: ds
def pvDs : Es → Env → Option (List D)
  | .nil, _ => some []
  | .cons e es, σ => (pv e σ).bind fun r => (pvDs es σ).map fun ds => r.frz :: ds
def pvAs : List Bool → Es → Env → Option (List R)
  | _, .nil, _ => some []
  | false :: io, .cons e es, σ => (pv e σ).bind fun r => (pvAs io es σ).map fun rs => .v r.frz :: rs
  | _, .cons _ _, _ => none
def pvC : Es → Env → Option Bool
  | .nil, _ => some true
  | .cons c cs, σ => ((pv c σ).bind rbl).bind fun x => if x then pvC cs σ else some false
def pvG : Gs → Env → Option (List D)
  | .elt e, σ => (pv e σ).map fun r => [r.frz]
  | .cons t k es cs g, σ => if isElt g then (pvDs es σ).bind fun qs => (walk k qs).bind fun ds =>
      flatM (fun d => (assign t (.v d) (forget t.slots σ)).bind fun σ' => (pvC cs σ').bind fun b => if b then pvG g σ' else some []) ds else none
end
end

/-! ### it is what the evaluator does -/
theorem bind_some' {α β : Type} {x : Option α} {f : α → Option β} {b : β} (h : x.bind f = some b) : ∃ a, x = some a ∧ f a = some b := by
  cases x with
  | none => cases h
  | some a => exact ⟨a, rfl, h⟩
theorem map_some' {α β : Type} {x : Option α} {f : α → β} {b : β} (h : x.map f = some b) : ∃ a, x = some a ∧ f a = b := by
  cases x with
  | none => cases h
  | some a => exact ⟨a, rfl, Option.some.inj h⟩
theorem rbl_some {r : R} {b : Bool} (h : rbl r = some b) : r = .v (.bl b) := by
  cases r with
  | v d =>
    cases d with
    | bl x => cases h; rfl
    | _ => cases h
  | _ => cases h
theorem vget_some {o : Option R} {r : R} (h : vget o = some r) : ∃ d, o = some (.v d) ∧ r = .v d := by
  cases o with
  | none => cases h
  | some x =>
    cases x with
    | v d => cases h; exact ⟨d, rfl, rfl⟩
    | _ => cases h
theorem get_some {σ : Env} {i : Nat} {r : R} (h : get σ i = some r) : σ[i]? = some (some r) := by
  unfold Pv.get at h
  cases e : σ[i]? with
  | none => rw [e] at h; cases h
  | some x => rw [e] at h; exact congrArg some h
theorem forget_len : ∀ (l : List Nat) (σ : Env), (forget l σ).length = σ.length
  | [], _ => rfl
  | i :: r, σ => by rw [forget, List.length_set, forget_len r]
theorem forget_at : ∀ (l : List Nat) (σ : Env) (j : Nat), (forget l σ)[j]? = if j ∈ l ∧ j < σ.length then some none else σ[j]?
  | [], σ, j => by simp [forget]
  | i :: r, σ, j => by
    rw [forget, List.getElem?_set, forget_len, forget_at r σ j]
    by_cases e : i = j
    · subst e
      by_cases h : i < σ.length
      · simp [h]
      · simp [h]
    · have : ¬ j = i := fun z => e z.symm
      simp [e, this]
theorem restore_len (σ0 : Env) : ∀ (l : List Nat) (σ : Env), (restore σ0 l σ).length = σ.length
  | [], _ => rfl
  | i :: r, σ => by rw [restore, List.length_set, restore_len σ0 r]
theorem restore_at (σ0 : Env) : ∀ (l : List Nat) (σ : Env) (j : Nat), (restore σ0 l σ)[j]? = if j ∈ l ∧ j < σ.length then some (get σ0 j) else σ[j]?
  | [], σ, j => by simp [restore]
  | i :: r, σ, j => by
    rw [restore, List.getElem?_set, restore_len, restore_at σ0 r σ j]
    by_cases e : i = j
    · subst e
      by_cases h : i < σ.length
      · simp [h]
      · simp [h]
    · have : ¬ j = i := fun z => e z.symm
      simp [e, this]
theorem restore_forget (own : List Nat) (σ : Env) : restore σ own (forget own σ) = σ := by
  apply List.ext_getElem?
  intro j
  rw [restore_at, forget_at, forget_len]
  by_cases h : j ∈ own ∧ j < σ.length
  · rw [if_pos h]
    unfold Pv.get
    rw [List.getElem?_eq_getElem h.2]
    rfl
  · rw [if_neg h, if_neg h]
theorem forget_sub {a b : List Nat} (h : ∀ i ∈ a, i ∈ b) (σ : Env) : forget b (forget a σ) = forget b σ := by
  apply List.ext_getElem?
  intro j
  rw [forget_at, forget_at, forget_at, forget_len]
  by_cases e : j ∈ b ∧ j < σ.length
  · rw [if_pos e, if_pos e]
  · rw [if_neg e, if_neg e, if_neg fun z => e ⟨h _ z.1, z.2⟩]
mutual
theorem assign_forget : ∀ (t : T) (r : R) (σ σ' : Env), assign t r σ = some σ' → ∀ own, (∀ i ∈ t.slots, i ∈ own) → forget own σ' = forget own σ
  | .v i, r, σ, σ', h, own, hs => by
    rw [assign] at h
    by_cases hi : i < σ.length
    · rw [if_pos hi] at h
      cases h
      apply List.ext_getElem?
      intro j
      rw [forget_at, forget_at, List.length_set, List.getElem?_set]
      by_cases e : j ∈ own ∧ j < σ.length
      · rw [if_pos e, if_pos e]
      · rw [if_neg e, if_neg e]
        by_cases z : i = j
        · subst z
          exact absurd ⟨hs i (by simp [T.slots]), hi⟩ e
        · rw [if_neg z]
    · rw [if_neg hi] at h
      cases h
  | .t ts, r, σ, σ', h, own, hs => by
    cases r with
    | v d =>
      cases d with
      | tup l => rw [assign] at h; exact assigns_forget ts l σ σ' h own (by simpa [T.slots] using hs)
      | _ => cases h
    | _ => cases h
theorem assigns_forget : ∀ (ts : List T) (ds : List D) (σ σ' : Env), assigns ts ds σ = some σ' → ∀ own, (∀ i ∈ T.slotss ts, i ∈ own) → forget own σ' = forget own σ
  | [], [], σ, σ', h, own, hs => by
    rw [assigns] at h
    cases h
    rfl
  | [], _ :: _, σ, σ', h, own, hs => by
    simp [assigns] at h
  | _ :: _, [], σ, σ', h, own, hs => by
    simp [assigns] at h
  | t :: ts, d :: ds, σ, σ', h, own, hs => by
    rw [assigns] at h
    obtain ⟨σ1, h1, h2⟩ := bind_some' h
    simp only [T.slotss, List.mem_append] at hs
    rw [assigns_forget ts ds σ1 σ' h2 own fun i hi => hs i (.inr hi), assign_forget t _ σ σ1 h1 own fun i hi => hs i (.inl hi)]
end
theorem subL_mem {a b : List Nat} (h : subL a b = true) : ∀ i ∈ a, i ∈ b := fun i hi => by
  have := List.all_eq_true.mp h i hi
  simpa using this
theorem flatM_len {α β : Type} {f : α → Option (List β)} {d : α} {ds : List α} {out : List β} (h : flatM f (d :: ds) = some out) : ∃ l m, f d = some l ∧ flatM f ds = some m ∧ out = l ++ m := by
  obtain ⟨l, h1, h2⟩ := bind_some' h
  obtain ⟨m, h3, h4⟩ := map_some' h2
  exact ⟨l, m, h1, h3, h4.symm⟩
/-- the rounds of one clause -/
theorem compL_of {body : D → Env → List D → Out (List D)} {f : D → Option (List D)} {σ : Env} : ∀ {ds acc out : List D}, flatM f ds = some out → acc.length + out.length ≤ lim →
    (∀ d ∈ ds, ∀ l acc, f d = some l → acc.length + l.length ≤ lim → body d σ acc = .ok (acc ++ l) σ) → compL body ds σ acc = .ok (acc ++ out) σ
  | [], acc, out, h, _, _ => by
    cases h
    simp [compL]
  | d :: ds, acc, out, h, hl, hb => by
    obtain ⟨l, m, h1, h2, rfl⟩ := flatM_len h
    rw [List.length_append] at hl
    rw [compL, hb d List.mem_cons_self l acc h1 (by omega)]
    simp only [Out.bind]
    rw [compL_of h2 (by rw [List.length_append]; omega) fun d hd => hb d (List.mem_cons_of_mem _ hd), List.append_assoc]
theorem argsOf_inl (σ : Env) : ∀ ds : List D, argsOf σ (ds.map .inl) = some (ds.map .v)
  | [] => rfl
  | d :: ds => by rw [List.map_cons, argsOf, argsOf_inl σ ds]; rfl
theorem ios_inl : ∀ ds : List D, iosOf (ds.map .inl) = []
  | [] => rfl
  | d :: ds => by rw [List.map_cons, iosOf, ios_inl ds]

section
variable (C : Ctx)
theorem evPs_cons' {e : E} {es : Es} {σ : Env} (h : ∀ i, e ≠ .v i) : evPs C (.cons e es) σ = (ev C e σ).bind fun r σ => (evPs C es σ).bind fun ps σ => .ok (.d r.frz :: ps) σ := by
  cases e with
  | v i => exact absurd rfl (h i)
  | _ => (rw [evPs]; nofun)
theorem pvPs_cons' {e : E} {es : Es} {σ : Env} (h : ∀ i, e ≠ .v i) : pvPs C (.cons e es) σ = (pv C e σ).bind fun r => (pvPs C es σ).map fun ds => r.frz :: ds := by
  cases e with
  | v i => exact absurd rfl (h i)
  | _ => (rw [pvPs]; nofun)
mutual
theorem pv_ok : ∀ (e : E) (σ : Env) (r : R), pv C e σ = some r → ev C e σ = .ok r σ
  | .c d, σ, r, h => by rw [pv] at h; cases h; rw [ev]
  | .v i, σ, r, h => by
    rw [pv] at h
    obtain ⟨d, h1, rfl⟩ := vget_some h
    rw [ev, frzSlot, h1]
    rfl
  | .op o es, σ, r, h => by
    rw [pv] at h
    rw [ev]
    by_cases ho : o.keeps = true
    · rw [if_pos ho] at h ⊢
      obtain ⟨ds, h1, h2⟩ := bind_some' h
      rw [pvDs_ok es σ ds h1]
      simp only [Out.bind, h2, ofO]
    · rw [if_neg ho] at h ⊢
      obtain ⟨ds, h1, h2⟩ := bind_some' h
      obtain ⟨ps, h3, h4⟩ := pvPs_ok es σ ds h1
      rw [h3]
      simp only [Out.bind, h4, Option.bind_some, h2, ofO]
  | .and a b, σ, r, h => by
    rw [pv] at h
    obtain ⟨x, h1, h2⟩ := bind_some' h
    obtain ⟨r1, h3, h4⟩ := bind_some' h1
    rw [rbl_some h4] at h3
    rw [ev, pv_ok a σ _ h3]
    cases x with
    | true =>
      simp only [Out.bind]
      exact pv_ok b σ _ h2
    | false =>
      simp only [Out.bind]
      cases h2
      rfl
  | .or a b, σ, r, h => by
    rw [pv] at h
    obtain ⟨x, h1, h2⟩ := bind_some' h
    obtain ⟨r1, h3, h4⟩ := bind_some' h1
    rw [rbl_some h4] at h3
    rw [ev, pv_ok a σ _ h3]
    cases x with
    | true =>
      simp only [Out.bind]
      cases h2
      rfl
    | false =>
      simp only [Out.bind]
      exact pv_ok b σ _ h2
  | .not a, σ, r, h => by
    rw [pv] at h
    obtain ⟨x, h1, h2⟩ := map_some' h
    obtain ⟨r1, h3, h4⟩ := bind_some' h1
    rw [rbl_some h4] at h3
    rw [ev, pv_ok a σ _ h3]
    simp only [Out.bind, h2]
  | .ife c a b, σ, r, h => by
    rw [pv] at h
    obtain ⟨x, h1, h2⟩ := bind_some' h
    obtain ⟨r1, h3, h4⟩ := bind_some' h1
    rw [rbl_some h4] at h3
    rw [ev, pv_ok c σ _ h3]
    cases x with
    | true =>
      simp only [Out.bind, if_true]
      exact pv_ok a σ _ h2
    | false =>
      simp only [Out.bind]
      exact pv_ok b σ _ h2
  | .call f es, σ, r, h => by
    rw [pv] at h
    obtain ⟨rs, h1, h2⟩ := bind_some' h
    obtain ⟨ds, h3, rfl⟩ := pvAs_ok (C.io f) es σ rs h1
    rw [ev, h3]
    simp only [Out.bind, argsOf_inl, ios_inl, noDup, if_true]
    cases e : C.cf f (ds.map .v) with
    | no => rw [e] at h2; cases h2
    | ok r' bs =>
      rw [e] at h2
      cases h2
      simp only [putBacks]
  | .pop i, σ, r, h => by rw [pv] at h; cases h
  | .comp own t k es cs g, σ, r, h => by
    rw [pv] at h
    by_cases hc : (noOwn σ own && subL (t.slots ++ slotsG g) own) = true
    · rw [if_pos hc] at h
      obtain ⟨qs, h1, h2⟩ := bind_some' h
      obtain ⟨ds, h3, h4⟩ := bind_some' h2
      obtain ⟨out, h5, h6⟩ := bind_some' h4
      obtain ⟨hn, hs⟩ := (Bool.and_eq_true _ _).mp hc
      have hs := subL_mem hs
      rw [rowL] at h6
      by_cases hl : out.length ≤ lim
      · rw [if_pos hl] at h6
        cases h6
        rw [ev, pvDs_ok es σ qs h1]
        simp only [Out.bind, hn, if_true, h3, ofO]
        rw [compL_of h5 (by simpa using hl) fun d _ l acc hf ha => ?_]
        · simp only [List.nil_append]
          rw [restore_forget]
        · obtain ⟨σ', f1, f2⟩ := bind_some' hf
          obtain ⟨b, f3, f4⟩ := bind_some' f2
          have hof : forget own σ' = forget own σ := by
            rw [assign_forget t _ _ _ f1 own fun i hi => hs i (List.mem_append_left _ hi), forget_sub fun i hi => hi]
          simp only [f1]
          rw [pvC_ok cs σ' b f3]
          cases b with
          | false =>
            simp only [Out.bind]
            cases f4
            rw [hof]
            simp
          | true =>
            simp only [if_true] at f4 ⊢
            obtain ⟨σ2, g1, g2⟩ := pvG_ok g σ' l acc f4 ha
            simp only [Out.bind, if_true, g1]
            rw [g2 own fun i hi => hs i (List.mem_append_right _ hi), hof]
      · rw [if_neg hl] at h6
        cases h6
    · rw [if_neg hc] at h
      cases h
theorem pvDs_ok : ∀ (es : Es) (σ : Env) (ds : List D), pvDs C es σ = some ds → evDs C es σ = .ok ds σ
  | .nil, σ, ds, h => by rw [pvDs] at h; cases h; rw [evDs]
  | .cons e es, σ, ds, h => by
    rw [pvDs] at h
    obtain ⟨r, h1, h2⟩ := bind_some' h
    obtain ⟨ds', h3, rfl⟩ := map_some' h2
    rw [evDs, pv_ok e σ r h1]
    simp only [Out.bind]
    rw [pvDs_ok es σ ds' h3]
theorem pvPs_ok : ∀ (es : Es) (σ : Env) (ds : List D), pvPs C es σ = some ds → ∃ ps, evPs C es σ = .ok ps σ ∧ fetchs σ ps = some ds
  | .nil, σ, ds, h => by rw [pvPs] at h; cases h; exact ⟨[], by rw [evPs], rfl⟩
  | .cons e es, σ, ds, h => by
    by_cases hv : ∃ i, e = .v i
    · obtain ⟨i, rfl⟩ := hv
      rw [pvPs] at h
      obtain ⟨r, h1, h2⟩ := bind_some' h
      obtain ⟨ds', h3, rfl⟩ := map_some' h2
      obtain ⟨ps, h4, h5⟩ := pvPs_ok es σ ds' h3
      refine ⟨.s i (kind r.frz) :: ps, ?_, ?_⟩
      · rw [evPs]
        simp only [h1, h4, Out.bind]
      · simp only [fetchs, fetch, h1, Option.bind_some, if_true, h5, Option.map_some]
    · rw [pvPs_cons' C fun i hi => hv ⟨i, hi⟩] at h
      obtain ⟨r, h1, h2⟩ := bind_some' h
      obtain ⟨ds', h3, rfl⟩ := map_some' h2
      obtain ⟨ps, h4, h5⟩ := pvPs_ok es σ ds' h3
      refine ⟨.d r.frz :: ps, ?_, ?_⟩
      · rw [evPs_cons' C fun i hi => hv ⟨i, hi⟩, pv_ok e σ r h1]
        simp only [Out.bind, h4]
      · simp only [fetchs, fetch, Option.bind_some, h5, Option.map_some]
theorem pvAs_ok : ∀ (io : List Bool) (es : Es) (σ : Env) (rs : List R), pvAs C io es σ = some rs → ∃ ds : List D, evAs C io es σ = .ok (ds.map .inl) σ ∧ rs = ds.map .v
  | io, .nil, σ, rs, h => by
    refine ⟨[], by rw [evAs]; rfl, ?_⟩
    cases io <;> (rw [pvAs] at h; cases h; rfl)
  | [], .cons e es, σ, rs, h => by simp [pvAs] at h
  | true :: io, .cons e es, σ, rs, h => by simp [pvAs] at h
  | false :: io, .cons e es, σ, rs, h => by
    rw [pvAs] at h
    obtain ⟨r, h1, h2⟩ := bind_some' h
    obtain ⟨rs', h3, rfl⟩ := map_some' h2
    obtain ⟨ds, h4, rfl⟩ := pvAs_ok io es σ rs' h3
    refine ⟨r.frz :: ds, ?_, rfl⟩
    rw [evAs, pv_ok e σ r h1]
    simp only [Out.bind, h4, List.map_cons]
theorem pvC_ok : ∀ (cs : Es) (σ : Env) (b : Bool), pvC C cs σ = some b → evC C cs σ = .ok b σ
  | .nil, σ, b, h => by rw [pvC] at h; cases h; rw [evC]
  | .cons c cs, σ, b, h => by
    rw [pvC] at h
    obtain ⟨x, h1, h2⟩ := bind_some' h
    obtain ⟨r1, h3, h4⟩ := bind_some' h1
    rw [rbl_some h4] at h3
    rw [evC, pv_ok c σ _ h3]
    cases x with
    | true =>
      simp only [Out.bind]
      exact pvC_ok cs σ b h2
    | false =>
      simp only [Out.bind]
      cases h2
      rfl
theorem pvG_ok : ∀ (g : Gs) (σ : Env) (l acc : List D), pvG C g σ = some l → acc.length + l.length ≤ lim → ∃ σ', evG C g σ acc = .ok (acc ++ l) σ' ∧ ∀ own, (∀ i ∈ slotsG g, i ∈ own) → forget own σ' = forget own σ
  | .elt e, σ, l, acc, h, ha => by
    rw [pvG] at h
    obtain ⟨r, h1, rfl⟩ := map_some' h
    refine ⟨σ, ?_, fun _ _ => rfl⟩
    have hs : small acc.length = true := decide_eq_true (by simp at ha; omega)
    rw [evG, pv_ok e σ r h1]
    simp only [Out.bind, hs, if_true]
  | .cons t k es cs g, σ, l, acc, h, ha => by
    rw [pvG] at h
    by_cases hg : isElt g = true
    · rw [if_pos hg] at h
      obtain ⟨qs, h1, h2⟩ := bind_some' h
      obtain ⟨ds, h3, h4⟩ := bind_some' h2
      refine ⟨forget t.slots σ, ?_, fun own ho => forget_sub (fun i hi => ho i (by simp [slotsG, hi])) σ⟩
      rw [evG, pvDs_ok es σ qs h1]
      simp only [Out.bind, h3, ofO]
      refine compL_of h4 ha fun d _ l acc hf ha => ?_
      obtain ⟨σ', f1, f2⟩ := bind_some' hf
      obtain ⟨b, f3, f4⟩ := bind_some' f2
      have hof : forget t.slots σ' = forget t.slots σ := by
        rw [assign_forget t _ _ _ f1 t.slots fun i hi => hi, forget_sub fun i hi => hi]
      simp only [f1]
      rw [pvC_ok cs σ' b f3]
      cases b with
      | false =>
        simp only [Out.bind]
        cases f4
        rw [hof]
        simp
      | true =>
        simp only [if_true] at f4 ⊢
        obtain ⟨σ2, g1, g2⟩ := pvG_ok g σ' l acc f4 ha
        simp only [Out.bind, if_true, g1]
        have hsg : slotsG g = [] := by
          cases g with
          | elt e => rfl
          | _ => cases hg
        rw [g2 t.slots (by rw [hsg]; nofun), hof]
    · rw [if_neg hg] at h
      cases h
end
end
end Pu
end
section
/-! PvU: what simp knows of the evaluator. -/
namespace Pu
open Pv

theorem ob_some {α β : Type} (a : α) (f : α → Option β) : (some a).bind f = f a := id rfl
@[simp] theorem flatM_nil {α β : Type} (f : α → Option (List β)) : flatM f [] = some [] := id rfl
theorem flatM_cons {α β : Type} (f : α → Option (List β)) (d : α) (ds : List α) : flatM f (d :: ds) = (f d).bind fun l => (flatM f ds).map (l ++ ·) := rfl
@[simp] theorem flatM_map {α β γ : Type} (f : α → Option (List β)) (h : γ → α) (l : List γ) : flatM f (l.map h) = flatM (fun x => f (h x)) l := by
  induction l with
  | nil => rfl
  | cons a l ih => rw [List.map_cons, flatM_cons, flatM_cons, ih]
theorem flatM_mem {α β : Type} {f : α → Option (List β)} (g : α → List β) {l : List α} (h : ∀ x ∈ l, f x = some (g x)) : flatM f l = some (l.flatMap g) := by
  induction l with
  | nil => rfl
  | cons a l ih =>
    rw [flatM_cons, h a List.mem_cons_self, ih fun x hx => h x (List.mem_cons_of_mem _ hx)]
    rfl
theorem flatMap_one' {α β : Type} (g : α → β) (l : List α) : (l.flatMap fun x => [g x]) = l.map g := by
  induction l with
  | nil => rfl
  | cons a l ih => rw [List.flatMap_cons, ih]; rfl
theorem flatMap_if' {α β : Type} (p : α → Bool) (g : α → β) (l : List α) : (l.flatMap fun x => if p x = true then [g x] else []) = (l.filter p).map g := by
  induction l with
  | nil => rfl
  | cons a l ih =>
    rw [List.flatMap_cons, ih, List.filter_cons]
    split <;> simp
/-- one item a round -/
theorem flatM_mem1 {α β : Type} {f : α → Option (List β)} (g : α → β) {l : List α} (h : ∀ x ∈ l, f x = some [g x]) : flatM f l = some (l.map g) := by
  rw [flatM_mem (fun x => [g x]) h, flatMap_one']
/-- one item a round, where it is chosen -/
theorem flatM_memf {α β : Type} {f : α → Option (List β)} (p : α → Bool) (g : α → β) {l : List α} (h : ∀ x ∈ l, f x = if p x = true then some [g x] else some []) : flatM f l = some ((l.filter p).map g) := by
  rw [flatM_mem (fun x => if p x = true then [g x] else []) fun x hx => by rw [h x hx]; split <;> rfl, flatMap_if']
@[simp] theorem flatM_some {α β : Type} (g : α → List β) (l : List α) : flatM (fun x => some (g x)) l = some (l.flatMap g) := flatM_mem g fun _ _ => rfl
@[simp high] theorem flatM_some1 {α β : Type} (g : α → β) (l : List α) : flatM (fun x => some [g x]) l = some (l.map g) := flatM_mem1 g fun _ _ => rfl
@[simp high] theorem flatM_somef {α β : Type} (p : α → Bool) (g : α → β) (l : List α) : flatM (fun x => if p x = true then some [g x] else some []) l = some ((l.filter p).map g) := flatM_memf p g fun _ _ => rfl
@[simp high] theorem flatM_somep {α β : Type} (p : α → Prop) [DecidablePred p] (g : α → β) (l : List α) : flatM (fun x => if p x then some [g x] else some []) l = some ((l.filter fun x => decide (p x)).map g) := flatM_memf (fun x => decide (p x)) g fun _ _ => by simp
@[simp high] theorem flatM_somen {α β : Type} (p : α → Prop) [DecidablePred p] (g : α → β) (l : List α) : flatM (fun x => if p x then some [] else some [g x]) l = some ((l.filter fun x => !decide (p x)).map g) := flatM_memf (fun x => !decide (p x)) g fun x _ => by by_cases h : p x <;> simp [h]
theorem flatM_att {α β : Type} (f : α → Option (List β)) (l : List α) : flatM f l = flatM (fun x : {x // x ∈ l} => f x.1) l.attach := by
  have h := flatM_map f (fun x : {x // x ∈ l} => x.1) l.attach
  rwa [List.attach_map_subtype_val] at h

@[simp] theorem small_le {n : Nat} (h : n ≤ 100000) : small n = true := decide_eq_true (show n < 16777216 by omega)
@[simp] theorem rowL_le {out : List D} (h : out.length ≤ 100000) : rowL out = some (.l out) := if_pos (show out.length ≤ 16777216 by omega)
@[simp] theorem rowL_fm {α : Type} (p : α → Bool) (g : α → D) (l : List α) (h : l.length ≤ 100000) : rowL ((l.filter p).map g) = some (.l ((l.filter p).map g)) := rowL_le (by
  rw [List.length_map]
  exact Nat.le_trans (List.length_filter_le ..) h)
@[simp] theorem ite_bl (c d : Bool) : (if c = true then some (R.v (.bl d)) else some (R.v (.bl false))) = some (R.v (.bl (c && d))) := by cases c <;> rfl
@[simp] theorem ite_bl' (c d : Bool) : (if c = true then some (R.v (.bl true)) else some (R.v (.bl d))) = some (R.v (.bl (c || d))) := by cases c <;> rfl
@[simp] theorem ite_blp (c : Prop) [Decidable c] (d : Bool) : (if c then some (R.v (.bl d)) else some (R.v (.bl false))) = some (R.v (.bl (decide c && d))) := by by_cases h : c <;> simp [h]
@[simp] theorem ite_blp' (c : Prop) [Decidable c] (d : Bool) : (if c then some (R.v (.bl true)) else some (R.v (.bl d))) = some (R.v (.bl (decide c || d))) := by by_cases h : c <;> simp [h]
@[simp] theorem ite_int (c : Prop) [Decidable c] (a b : Int) : (if c then some (R.v (.int a)) else some (R.v (.int b))) = some (R.v (.int (if c then a else b))) := by by_cases h : c <;> simp [h]
@[simp] theorem ite_str (c : Prop) [Decidable c] (a b : List Nat) : (if c then some (R.v (.str a)) else some (R.v (.str b))) = some (R.v (.str (if c then a else b))) := by by_cases h : c <;> simp [h]
@[simp] theorem ite_tup (c : Prop) [Decidable c] (a b : List D) : (if c then some (R.v (.tup a)) else some (R.v (.tup b))) = some (R.v (.tup (if c then a else b))) := by by_cases h : c <;> simp [h]
@[simp] theorem ite_rl (c : Prop) [Decidable c] (a b : List D) : (if c then some (R.l a) else some (R.l b)) = some (R.l (if c then a else b)) := by by_cases h : c <;> simp [h]
@[simp] theorem ite_tf (c : Prop) [Decidable c] : (if c then some true else some false) = some (decide c) := by by_cases h : c <;> simp [h]
@[simp] theorem ite_b2 (c : Prop) [Decidable c] (a b : Bool) : (if c then some a else some b) = some (if c then a else b) := by by_cases h : c <;> simp [h]
@[simp] theorem vget_v (d : D) : vget (some (.v d)) = some (.v d) := id rfl
@[simp] theorem vget_l (d : List D) : vget (some (.l d)) = none := id rfl
@[simp] theorem vget_m (d : List (D × D)) : vget (some (.m d)) = none := id rfl
@[simp] theorem vget_n : vget none = none := id rfl
@[simp] theorem rbl_bl (b : Bool) : rbl (.v (.bl b)) = some b := id rfl
@[simp] theorem crv_ok (r : R) (bs : List R) : crv (.ok r bs) = some r := id rfl

section
variable {C : Ctx}
@[simp] theorem pv_c (d : D) (σ : Env) : pv C (.c d) σ = some (.v d) := by rw [pv]
@[simp] theorem pv_v (i : Nat) (σ : Env) : pv C (.v i) σ = vget (Pv.get σ i) := by rw [pv]
@[simp] theorem pv_op (o : Op) (es : Es) (σ : Env) : pv C (.op o es) σ = if o.keeps then (pvDs C es σ).bind (opD o) else (pvPs C es σ).bind (opD o) := by rw [pv]
@[simp] theorem pv_and (a b : E) (σ : Env) : pv C (.and a b) σ = ((pv C a σ).bind rbl).bind fun x => if x then pv C b σ else some (.v (.bl false)) := by rw [pv]
@[simp] theorem pv_or (a b : E) (σ : Env) : pv C (.or a b) σ = ((pv C a σ).bind rbl).bind fun x => if x then some (.v (.bl true)) else pv C b σ := by rw [pv]
@[simp] theorem pv_not (a : E) (σ : Env) : pv C (.not a) σ = ((pv C a σ).bind rbl).map fun x => .v (.bl (!x)) := by rw [pv]
@[simp] theorem pv_ife (c a b : E) (σ : Env) : pv C (.ife c a b) σ = ((pv C c σ).bind rbl).bind fun x => if x then pv C a σ else pv C b σ := by rw [pv]
@[simp] theorem pv_call (f : Nat) (es : Es) (σ : Env) : pv C (.call f es) σ = (pvAs C (C.io f) es σ).bind fun rs => crv (C.cf f rs) := by rw [pv]
@[simp] theorem pv_comp (own : List Nat) (t : T) (k : It) (es cs : Es) (g : Gs) (σ : Env) : pv C (.comp own t k es cs g) σ = if noOwn σ own && subL (t.slots ++ slotsG g) own then (pvDs C es σ).bind fun qs => (walk k qs).bind fun ds =>
      (flatM (fun d => (assign t (.v d) (forget own σ)).bind fun σ' => (pvC C cs σ').bind fun b => if b then pvG C g σ' else some []) ds).bind rowL else none := by rw [pv]
@[simp] theorem pv_pop (i : Nat) (σ : Env) : pv C (.pop i) σ = none := by rw [pv]
@[simp] theorem pvPs_nil (σ : Env) : pvPs C .nil σ = some [] := by rw [pvPs]
@[simp] theorem pvPs_v (i : Nat) (es : Es) (σ : Env) : pvPs C (.cons (.v i) es) σ = (Pv.get σ i).bind fun r => (pvPs C es σ).map fun ds => r.frz :: ds := by rw [pvPs]
@[simp low] theorem pvPs_cons (e : E) (es : Es) (σ : Env) (h : ∀ i, e ≠ .v i) : pvPs C (.cons e es) σ = (pv C e σ).bind fun r => (pvPs C es σ).map fun ds => r.frz :: ds := pvPs_cons' C h
@[simp] theorem pvDs_nil (σ : Env) : pvDs C .nil σ = some [] := by rw [pvDs]
@[simp] theorem pvDs_cons (e : E) (es : Es) (σ : Env) : pvDs C (.cons e es) σ = (pv C e σ).bind fun r => (pvDs C es σ).map fun ds => r.frz :: ds := by rw [pvDs]
@[simp] theorem pvAs_nil (io : List Bool) (σ : Env) : pvAs C io .nil σ = some [] := by cases io <;> rw [pvAs]
@[simp] theorem pvAs_f (io : List Bool) (e : E) (es : Es) (σ : Env) : pvAs C (false :: io) (.cons e es) σ = (pv C e σ).bind fun r => (pvAs C io es σ).map fun rs => .v r.frz :: rs := by rw [pvAs]
@[simp] theorem pvAs_t (io : List Bool) (e : E) (es : Es) (σ : Env) : pvAs C (true :: io) (.cons e es) σ = none := by simp [pvAs]
@[simp] theorem pvC_nil (σ : Env) : pvC C .nil σ = some true := by rw [pvC]
@[simp] theorem pvC_cons (c : E) (cs : Es) (σ : Env) : pvC C (.cons c cs) σ = ((pv C c σ).bind rbl).bind fun x => if x then pvC C cs σ else some false := by rw [pvC]
@[simp] theorem pvG_elt (e : E) (σ : Env) : pvG C (.elt e) σ = (pv C e σ).map fun r => [r.frz] := by rw [pvG]
@[simp] theorem pvG_cons (t : T) (k : It) (es cs : Es) (g : Gs) (σ : Env) : pvG C (.cons t k es cs g) σ = if isElt g then (pvDs C es σ).bind fun qs => (walk k qs).bind fun ds =>
      flatM (fun d => (assign t (.v d) (forget t.slots σ)).bind fun σ' => (pvC C cs σ').bind fun b => if b then pvG C g σ' else some []) ds else none := by rw [pvG]
def isOk (x : Option R) : Prop := ∃ r, x = some r
@[simp] theorem isOk_some (r : R) : isOk (some r) := ⟨r, rfl⟩
/-- what changes nothing is what pv says -/
@[simp] theorem ev_pure {e : E} {σ : Env} (h : isOk (pv C e σ)) : ev C e σ = .ok ((pv C e σ).getD (.v .non)) σ := by
  obtain ⟨r, hr⟩ := h
  rw [pv_ok C e σ r hr, hr]
  rfl
def bV (d : D) (σ : Env) : Out R := .ok (.v d) σ
@[simp] theorem bV_eq (d : D) (σ : Env) : bV d σ = .ok (.v d) σ := id rfl
@[simp low] theorem ev_v (i : Nat) (σ : Env) : ev C (.v i) σ = (frzSlot i σ).bind bV := by rw [ev] <;> rfl
def bOpD (o : Op) (ds : List D) (σ : Env) : Out R := ofO (opD o ds) σ
@[simp] theorem bOpD_eq (o : Op) (ds : List D) (σ : Env) : bOpD o ds σ = ofO (opD o ds) σ := id rfl
def bOpP (o : Op) (ps : List P) (σ : Env) : Out R := ofO ((fetchs σ ps).bind (opD o)) σ
@[simp] theorem bOpP_eq (o : Op) (ps : List P) (σ : Env) : bOpP o ps σ = ofO ((fetchs σ ps).bind (opD o)) σ := id rfl
@[simp low] theorem ev_op (o : Op) (es : Es) (σ : Env) : ev C (.op o es) σ = if o.keeps then (evDs C es σ).bind (bOpD o) else (evPs C es σ).bind (bOpP o) := by rw [ev] <;> rfl
def bAnd (C : Ctx) (b : E) (r : R) (σ : Env) : Out R := match r with
  | .v (.bl true) => ev C b σ
  | .v (.bl false) => .ok r σ
  | _ => .no
def bOr (C : Ctx) (b : E) (r : R) (σ : Env) : Out R := match r with
  | .v (.bl true) => .ok r σ
  | .v (.bl false) => ev C b σ
  | _ => .no
def bNot (r : R) (σ : Env) : Out R := match r with
  | .v (.bl x) => .ok (.v (.bl (!x))) σ
  | _ => .no
def bIfe (C : Ctx) (a b : E) (r : R) (σ : Env) : Out R := match r with
  | .v (.bl x) => if x then ev C a σ else ev C b σ
  | _ => .no
@[simp low] theorem ev_and (a b : E) (σ : Env) : ev C (.and a b) σ = (ev C a σ).bind (bAnd C b) := by rw [ev] <;> rfl
@[simp low] theorem ev_or (a b : E) (σ : Env) : ev C (.or a b) σ = (ev C a σ).bind (bOr C b) := by rw [ev] <;> rfl
@[simp low] theorem ev_not (a : E) (σ : Env) : ev C (.not a) σ = (ev C a σ).bind bNot := by rw [ev] <;> rfl
@[simp low] theorem ev_ife (c a b : E) (σ : Env) : ev C (.ife c a b) σ = (ev C c σ).bind (bIfe C a b) := by rw [ev] <;> rfl
@[simp low] theorem bAnd_b (b : E) (x : Bool) (σ : Env) : bAnd C b (.v (.bl x)) σ = if x = true then ev C b σ else .ok (.v (.bl false)) σ := by cases x <;> rfl
@[simp low] theorem bOr_b (b : E) (x : Bool) (σ : Env) : bOr C b (.v (.bl x)) σ = if x = true then .ok (.v (.bl true)) σ else ev C b σ := by cases x <;> rfl
@[simp] theorem bAnd_t (b : E) (σ : Env) : bAnd C b (.v (.bl true)) σ = ev C b σ := id rfl
@[simp] theorem bAnd_f (b : E) (σ : Env) : bAnd C b (.v (.bl false)) σ = .ok (.v (.bl false)) σ := id rfl
@[simp] theorem bOr_t (b : E) (σ : Env) : bOr C b (.v (.bl true)) σ = .ok (.v (.bl true)) σ := id rfl
@[simp] theorem bOr_f (b : E) (σ : Env) : bOr C b (.v (.bl false)) σ = ev C b σ := id rfl
@[simp] theorem bNot_b (b : Bool) (σ : Env) : bNot (.v (.bl b)) σ = .ok (.v (.bl (!b))) σ := id rfl
@[simp] theorem bIfe_b (a b : E) (x : Bool) (σ : Env) : bIfe C a b (.v (.bl x)) σ = if x then ev C a σ else ev C b σ := id rfl
def bCall (C : Ctx) (f : Nat) (as : List (D ⊕ Nat)) (σ : Env) : Out R := match argsOf σ as with
    | some rs => if noDup (iosOf as) then (match C.cf f rs with
      | .ok r bs => .ok r (putBacks (iosOf as) bs σ)
      | .no => .no) else .no
    | none => .no
@[simp low] theorem ev_call (f : Nat) (es : Es) (σ : Env) : ev C (.call f es) σ = (evAs C (C.io f) es σ).bind (bCall C f) := by rw [ev] <;> rfl
def kRes (is : List Nat) (σ : Env) : CR → Out R
  | .ok r bs => .ok r (putBacks is bs σ)
  | .no => .no
@[simp] theorem kRes_ok (is : List Nat) (σ : Env) (r : R) (bs : List R) : kRes is σ (.ok r bs) = .ok r (putBacks is bs σ) := id rfl
@[simp] theorem bCall_eq (f : Nat) (as : List (D ⊕ Nat)) (σ : Env) : bCall C f as σ = match argsOf σ as with
    | some rs => if noDup (iosOf as) then kRes (iosOf as) σ (C.cf f rs) else .no
    | none => .no := by
  unfold bCall kRes
  cases argsOf σ as with
  | none => rfl
  | some rs => rfl
@[simp low] theorem ev_pop (i : Nat) (σ : Env) : ev C (.pop i) σ = match get σ i with
    | some (.l xs) => (match xs.getLast? with
      | some d => .ok (.v d) (σ.set i (some (.l xs.dropLast)))
      | none => .no)
    | _ => .no := by rw [ev] <;> rfl
@[simp] theorem evPs_nil (σ : Env) : evPs C .nil σ = .ok [] σ := by rw [evPs]
def kCons {α : Type} (x : α) (xs : List α) (σ : Env) : Out (List α) := .ok (x :: xs) σ
@[simp] theorem kCons_eq {α : Type} (x : α) (xs : List α) (σ : Env) : kCons x xs σ = .ok (x :: xs) σ := id rfl
@[simp] theorem evPs_v (i : Nat) (es : Es) (σ : Env) : evPs C (.cons (.v i) es) σ = match get σ i with
    | some r => (evPs C es σ).bind (kCons (.s i (kind r.frz)))
    | none => .no := by rw [evPs] <;> rfl
def kPs (C : Ctx) (es : Es) (r : R) (σ : Env) : Out (List P) := (evPs C es σ).bind (kCons (.d r.frz))
@[simp] theorem kPs_eq (es : Es) (r : R) (σ : Env) : kPs C es r σ = (evPs C es σ).bind (kCons (.d r.frz)) := id rfl
@[simp low] theorem evPs_cons (e : E) (es : Es) (σ : Env) (h : ∀ i, e ≠ .v i) : evPs C (.cons e es) σ = (ev C e σ).bind (kPs C es) := evPs_cons' C h
@[simp] theorem evDs_nil (σ : Env) : evDs C .nil σ = .ok [] σ := by rw [evDs]
def kDs (C : Ctx) (es : Es) (r : R) (σ : Env) : Out (List D) := (evDs C es σ).bind (kCons r.frz)
@[simp] theorem kDs_eq (es : Es) (r : R) (σ : Env) : kDs C es r σ = (evDs C es σ).bind (kCons r.frz) := id rfl
@[simp] theorem evDs_cons (e : E) (es : Es) (σ : Env) : evDs C (.cons e es) σ = (ev C e σ).bind (kDs C es) := by rw [evDs] <;> rfl
@[simp] theorem evAs_nil (io : List Bool) (σ : Env) : evAs C io .nil σ = .ok [] σ := by rw [evAs]
@[simp] theorem evAs_t (io : List Bool) (i : Nat) (es : Es) (σ : Env) : evAs C (true :: io) (.cons (.v i) es) σ = match get σ i with
    | some _ => (evAs C io es σ).bind (kCons (.inr i))
    | none => .no := by rw [evAs] <;> rfl
def kAs (C : Ctx) (io : List Bool) (es : Es) (r : R) (σ : Env) : Out (List (D ⊕ Nat)) := (evAs C io es σ).bind (kCons (.inl r.frz))
@[simp] theorem kAs_eq (io : List Bool) (es : Es) (r : R) (σ : Env) : kAs C io es r σ = (evAs C io es σ).bind (kCons (.inl r.frz)) := id rfl
@[simp] theorem evAs_f (io : List Bool) (e : E) (es : Es) (σ : Env) : evAs C (false :: io) (.cons e es) σ = (ev C e σ).bind (kAs C io es) := by rw [evAs] <;> rfl
@[simp] theorem evC_nil (σ : Env) : evC C .nil σ = .ok true σ := by rw [evC]
def bC (C : Ctx) (cs : Es) (r : R) (σ : Env) : Out Bool := match r with
    | .v (.bl true) => evC C cs σ
    | .v (.bl false) => .ok false σ
    | _ => .no
@[simp] theorem evC_cons (c : E) (cs : Es) (σ : Env) : evC C (.cons c cs) σ = (ev C c σ).bind (bC C cs) := by rw [evC] <;> rfl
@[simp low] theorem bC_b (cs : Es) (x : Bool) (σ : Env) : bC C cs (.v (.bl x)) σ = if x = true then evC C cs σ else .ok false σ := by cases x <;> rfl
@[simp] theorem bC_t (cs : Es) (σ : Env) : bC C cs (.v (.bl true)) σ = evC C cs σ := id rfl
@[simp] theorem bC_f (cs : Es) (σ : Env) : bC C cs (.v (.bl false)) σ = .ok false σ := id rfl
def bT (r : R) (σ : Env) : Out Bool := match r with
  | .v (.bl b) => .ok b σ
  | _ => .no
@[simp] theorem evT_eq (c : E) (σ : Env) : evT C c σ = (ev C c σ).bind bT := by rw [evT] <;> rfl
@[simp] theorem bT_b (b : Bool) (σ : Env) : bT (.v (.bl b)) σ = .ok b σ := id rfl
@[simp] theorem evRs_nil (σ : Env) : evRs C .nil σ = .ok [] σ := by rw [evRs]
def kRs (C : Ctx) (es : Es) (r : R) (σ : Env) : Out (List R) := (evRs C es σ).bind (kCons r)
@[simp] theorem kRs_eq (es : Es) (r : R) (σ : Env) : kRs C es r σ = (evRs C es σ).bind (kCons r) := id rfl
@[simp] theorem evRs_cons (e : E) (es : Es) (σ : Env) : evRs C (.cons e es) σ = (ev C e σ).bind (kRs C es) := by rw [evRs] <;> rfl

/-- a comprehension with one clause, item by item -/
theorem pv_filc {own : List Nat} {t : T} {k : It} {es cs : Es} {e : E} {σ : Env} {qs : List D} {α : Type} {l : List α} (f : α → D) (p : α → Bool) (g : α → D) (hn : (noOwn σ own && subL (t.slots ++ []) own) = true) (hq : pvDs C es σ = some qs)
    (hw : walk k qs = some (l.map f)) (hl : l.length ≤ 100000)
    (h : ∀ a ∈ l, ((assign t (.v (f a)) (forget own σ)).bind fun σ' => (pvC C cs σ').bind fun b => if b then (pv C e σ').map fun r => [r.frz] else some []) = if p a = true then some [g a] else some []) :
    pv C (.comp own t k es cs (.elt e)) σ = some (.l ((l.filter p).map g)) := by
  rw [pv]
  simp only [slotsG, hn, if_true, hq, Option.bind_some, hw, flatM_map, pvG]
  rw [flatM_memf p g h]
  exact rowL_fm p g l hl
theorem pv_mapc {own : List Nat} {t : T} {k : It} {es : Es} {e : E} {σ : Env} {qs : List D} {α : Type} {l : List α} (f : α → D) (g : α → D) (hn : (noOwn σ own && subL (t.slots ++ []) own) = true) (hq : pvDs C es σ = some qs)
    (hw : walk k qs = some (l.map f)) (hl : l.length ≤ 100000)
    (h : ∀ a ∈ l, ((assign t (.v (f a)) (forget own σ)).bind fun σ' => (pv C e σ').map R.frz) = some (g a)) :
    pv C (.comp own t k es .nil (.elt e)) σ = some (.l (l.map g)) := by
  have := pv_filc (C := C) (own := own) (t := t) (k := k) (es := es) (cs := .nil) (e := e) (σ := σ) f (fun _ => true) g hn hq hw hl fun a ha => by
    obtain ⟨σ', h1, h2⟩ := bind_some' (h a ha)
    obtain ⟨r, h3, h4⟩ := map_some' h2
    simp only [pvC, Option.bind_some, if_true]
    rw [h1]
    simp only [Option.bind_some]
    rw [h3, Option.map_some, h4]
  rwa [List.filter_eq_self.mpr fun _ _ => rfl] at this
/-! ### statements -/
@[simp] theorem evSs_nil (σ : Env) : evSs C .nil σ = .next σ := by rw [evSs]
@[simp] theorem evSs_cons (s : S) (ss : Ss) (σ : Env) : evSs C (.cons s ss) σ = (evS C s σ).bind (evSs C ss) := by rw [evSs]
@[simp] theorem flb_next (σ : Env) (f : Env → Fl) : (Fl.next σ).bind f = f σ := id rfl
@[simp] theorem flb_ret (r : R) (σ : Env) (f : Env → Fl) : (Fl.ret r σ).bind f = .ret r σ := id rfl
@[simp] theorem flb_brk (σ : Env) (f : Env → Fl) : (Fl.brk σ).bind f = .brk σ := id rfl
@[simp] theorem flb_cnt (σ : Env) (f : Env → Fl) : (Fl.cnt σ).bind f = .cnt σ := id rfl
@[simp] theorem outb_ok {α β : Type} (a : α) (σ : Env) (f : α → Env → Out β) : (Out.ok a σ).bind f = f a σ := id rfl
@[simp] theorem outf_ok {α : Type} (a : α) (σ : Env) (f : α → Env → Fl) : (Out.ok a σ).fl f = f a σ := id rfl
@[simp] theorem ofO_some {α : Type} (a : α) (σ : Env) : ofO (some a) σ = .ok a σ := id rfl
def toFl : Option Env → Fl
  | some σ => .next σ
  | none => .no
@[simp] theorem toFl_some (σ : Env) : toFl (some σ) = .next σ := id rfl
def kAsg (t : T) (r : R) (σ : Env) : Fl := toFl (assign t r σ)
@[simp] theorem kAsg_eq (t : T) (r : R) (σ : Env) : kAsg t r σ = toFl (assign t r σ) := id rfl
@[simp] theorem evS_asg (t : T) (e : E) (σ : Env) : evS C (.asg t e) σ = (ev C e σ).fl (kAsg t) := by
  rw [evS]
  congr 1
  all_goals (funext r σ; unfold kAsg; cases assign t r σ <;> rfl)
def kPar (ts : List Nat) (rs : List R) (σ : Env) : Fl := toFl (sets ts rs σ)
@[simp] theorem kPar_eq (t : List Nat) (r : List R) (σ : Env) : kPar t r σ = toFl (sets t r σ) := id rfl
@[simp] theorem evS_par (ts : List Nat) (es : Es) (σ : Env) : evS C (.par ts es) σ = (evRs C es σ).fl (kPar ts) := by
  rw [evS]
  cases evRs C es σ with
  | no => rfl
  | ok rs σ => 
    simp only [Out.fl, kPar]
    cases sets ts rs σ <;> rfl
def kAug (i : Nat) (o : Op) (x : D) (r : R) (σ : Env) : Fl := match flatD (opD o [x, r.frz]) with
      | some z => .next (σ.set i (some (.v z)))
      | none => .no
@[simp] theorem kAug_eq (i : Nat) (o : Op) (x : D) (r : R) (σ : Env) : kAug i o x r σ = match flatD (opD o [x, r.frz]) with
      | some z => .next (σ.set i (some (.v z)))
      | none => .no := id rfl
@[simp] theorem evS_aug (i : Nat) (o : Op) (e : E) (σ : Env) : evS C (.aug i o e) σ = match get σ i with
    | some (.v x) => (ev C e σ).fl (kAug i o x)
    | _ => .no := by rw [evS] <;> rfl
def kSet2 (i : Nat) (r q : R) (σ : Env) : Fl := putIx i q.frz r.frz σ
@[simp] theorem kSet2_eq (i : Nat) (r q : R) (σ : Env) : kSet2 i r q σ = putIx i q.frz r.frz σ := id rfl
def kSet (C : Ctx) (i : Nat) (k : E) (r : R) (σ : Env) : Fl := match get σ i with
    | some _ => (ev C k σ).fl (kSet2 i r)
    | none => .no
@[simp] theorem kSet_eq (i : Nat) (k : E) (r : R) (σ : Env) : kSet C i k r σ = match get σ i with
    | some _ => (ev C k σ).fl (kSet2 i r)
    | none => .no := id rfl
@[simp] theorem evS_setix (i : Nat) (k e : E) (σ : Env) : evS C (.setix i k e) σ = (ev C e σ).fl (kSet C i k) := by rw [evS] <;> rfl
def kAi2 (i : Nat) (o : Op) (q : R) (x : D) (r : R) (σ : Env) : Fl := match flatD (opD o [x, r.frz]), get σ i with
        | some z, some (.m kvs) => if keyOk q.frz && small kvs.length then .next (σ.set i (some (.m (mput kvs q.frz z)))) else .no
        | _, _ => .no
@[simp] theorem kAi2_eq (i : Nat) (o : Op) (q : R) (x : D) (r : R) (σ : Env) : kAi2 i o q x r σ = match flatD (opD o [x, r.frz]), get σ i with
        | some z, some (.m kvs) => if keyOk q.frz && small kvs.length then .next (σ.set i (some (.m (mput kvs q.frz z)))) else .no
        | _, _ => .no := id rfl
def kAi (C : Ctx) (i : Nat) (o : Op) (e : E) (q : R) (σ : Env) : Fl := match (get σ i).bind fun x => dlook x q.frz with
      | some x => (ev C e σ).fl (kAi2 i o q x)
      | none => .no
@[simp] theorem kAi_eq (i : Nat) (o : Op) (e : E) (q : R) (σ : Env) : kAi C i o e q σ = match (get σ i).bind fun x => dlook x q.frz with
      | some x => (ev C e σ).fl (kAi2 i o q x)
      | none => .no := id rfl
@[simp] theorem evS_augix (i : Nat) (k : E) (o : Op) (e : E) (σ : Env) : evS C (.augix i k o e) σ = match get σ i with
    | some (.m _) => (ev C k σ).fl (kAi C i o e)
    | _ => .no := by rw [evS] <;> rfl
def kApp (i : Nat) (r : R) (σ : Env) : Fl := match get σ i with
      | some (.l xs) => if small xs.length then .next (σ.set i (some (.l (xs ++ [r.frz])))) else .no
      | _ => .no
@[simp] theorem kApp_eq (i : Nat) (r : R) (σ : Env) : kApp i r σ = match get σ i with
      | some (.l xs) => if small xs.length then .next (σ.set i (some (.l (xs ++ [r.frz])))) else .no
      | _ => .no := id rfl
@[simp] theorem evS_app (i : Nat) (e : E) (σ : Env) : evS C (.app i e) σ = match get σ i with
    | some (.l _) => (ev C e σ).fl (kApp i)
    | _ => .no := by rw [evS] <;> rfl
def kExt (i : Nat) (r : R) (σ : Env) : Fl := match get σ i, r with
      | some (.l xs), .l ys => if small (xs.length + ys.length) then .next (σ.set i (some (.l (xs ++ ys)))) else .no
      | _, _ => .no
@[simp] theorem kExt_eq (i : Nat) (r : R) (σ : Env) : kExt i r σ = match get σ i, r with
      | some (.l xs), .l ys => if small (xs.length + ys.length) then .next (σ.set i (some (.l (xs ++ ys)))) else .no
      | _, _ => .no := id rfl
@[simp] theorem evS_ext (i : Nat) (e : E) (σ : Env) : evS C (.ext i e) σ = match get σ i with
    | some (.l _) => (ev C e σ).fl (kExt i)
    | _ => .no := by rw [evS] <;> rfl
def kPk (i : Nat) (r : R) (σ : Env) : Fl := match get σ i with
      | some (.m kvs) => if keyOk r.frz && mhas kvs r.frz then .next (σ.set i (some (.m (mdel kvs r.frz)))) else .no
      | _ => .no
@[simp] theorem kPk_eq (i : Nat) (r : R) (σ : Env) : kPk i r σ = match get σ i with
      | some (.m kvs) => if keyOk r.frz && mhas kvs r.frz then .next (σ.set i (some (.m (mdel kvs r.frz)))) else .no
      | _ => .no := id rfl
@[simp] theorem evS_popk (i : Nat) (e : E) (σ : Env) : evS C (.popk i e) σ = match get σ i with
    | some (.m _) => (ev C e σ).fl (kPk i)
    | _ => .no := by rw [evS] <;> rfl
def kNext (r : R) (σ : Env) : Fl := .next σ
@[simp] theorem kNext_eq (r : R) (σ : Env) : kNext r σ = .next σ := id rfl
@[simp] theorem evS_expr (e : E) (σ : Env) : evS C (.expr e) σ = (ev C e σ).fl kNext := by rw [evS] <;> rfl
@[simp high] theorem evS_retv (i : Nat) (σ : Env) : evS C (.ret (.v i)) σ = match get σ i with
      | some r => .ret r (σ.set i none)
      | none => .no := by rw [evS] <;> rfl
def kRet (r : R) (σ : Env) : Fl := .ret r σ
@[simp] theorem kRet_eq (r : R) (σ : Env) : kRet r σ = .ret r σ := id rfl
@[simp low] theorem evS_ret (e : E) (σ : Env) (h : ∀ i, e ≠ .v i) : evS C (.ret e) σ = (ev C e σ).fl kRet := by
  cases e with
  | v i => exact absurd rfl (h i)
  | _ => (rw [evS]; (try rfl); (try nofun))
@[simp] theorem evS_retN (σ : Env) : evS C .retN σ = .ret (.v .non) σ := by rw [evS]
def kIf (C : Ctx) (a b : Ss) (x : Bool) (σ : Env) : Fl := if x then evSs C a σ else evSs C b σ
@[simp] theorem kIf_eq (a b : Ss) (x : Bool) (σ : Env) : kIf C a b x σ = if x = true then evSs C a σ else evSs C b σ := id rfl
@[simp] theorem evS_ife (c : E) (a b : Ss) (σ : Env) : evS C (.ife c a b) σ = (evT C c σ).fl (kIf C a b) := by rw [evS] <;> rfl
@[simp] theorem evS_brk (σ : Env) : evS C .brk σ = .brk σ := by rw [evS]
@[simp] theorem evS_cnt (σ : Env) : evS C .cnt σ = .cnt σ := by rw [evS]
@[simp] theorem evS_pass (σ : Env) : evS C .pass σ = .next σ := by rw [evS]
/-- one round of a for -/
def kilF (kill : List Nat) : Fl → Fl
  | .next σ => .next (forget kill σ)
  | .cnt σ => .cnt (forget kill σ)
  | .brk σ => .brk (forget kill σ)
  | x => x
@[simp] theorem kilF_next (kill : List Nat) (σ : Env) : kilF kill (.next σ) = .next (forget kill σ) := id rfl
@[simp] theorem kilF_cnt (kill : List Nat) (σ : Env) : kilF kill (.cnt σ) = .cnt (forget kill σ) := id rfl
@[simp] theorem kilF_brk (kill : List Nat) (σ : Env) : kilF kill (.brk σ) = .brk (forget kill σ) := id rfl
@[simp] theorem kilF_ret (kill : List Nat) (r : R) (σ : Env) : kilF kill (.ret r σ) = .ret r σ := id rfl
def kBody (C : Ctx) (b : Ss) (kill : List Nat) (σ : Env) : Fl := kilF kill (evSs C b σ)
@[simp] theorem kBody_eq (b : Ss) (kill : List Nat) (σ : Env) : kBody C b kill σ = kilF kill (evSs C b σ) := id rfl
def rnd (C : Ctx) (t : T) (b : Ss) (kill : List Nat) (d : D) (σ : Env) : Fl := (toFl (assign t (.v d) σ)).bind (kBody C b kill)
@[simp] theorem rnd_eq (t : T) (b : Ss) (kill : List Nat) (d : D) (σ : Env) : rnd C t b kill d σ = (toFl (assign t (.v d) σ)).bind (kBody C b kill) := id rfl
def kFor (C : Ctx) (t : T) (k : It) (b : Ss) (kill : List Nat) (qs : List D) (σ : Env) : Fl := (ofO (walk k qs) σ).fl fun ds σ => forL (rnd C t b kill) ds (forget kill σ)
theorem evS_forK (t : T) (k : It) (es : Es) (b : Ss) (kill : List Nat) (σ : Env) : evS C (.for t k es b kill) σ = (evDs C es σ).fl (kFor C t k b kill) := by
  rw [evS]
  cases evDs C es σ with
  | no => rfl
  | ok qs σ1 =>
    simp only [Out.bind, Out.fl, kFor]
    cases walk k qs with
    | none => rfl
    | some ds =>
      simp only [ofO]
      congr 1
      all_goals
        funext d σ
        rw [rnd_eq]
        cases assign t (.v d) σ with
        | none => rfl
        | some σ =>
          simp only [toFl_some, flb_next, kBody]
          cases evSs C b σ <;> rfl
@[simp] theorem kFor_eq (t : T) (k : It) (b : Ss) (kill : List Nat) (qs : List D) (σ : Env) : kFor C t k b kill qs σ = (ofO (walk k qs) σ).fl fun ds σ => forL (rnd C t b kill) ds (forget kill σ) := id rfl
def rndW (C : Ctx) (b : Ss) (kill : List Nat) (σ : Env) : Fl := kilF kill (evSs C b σ)
theorem evS_whlK (c : E) (b : Ss) (kill : List Nat) (σ : Env) : evS C (.whl c b kill) σ = C.wh (evT C c) (rndW C b kill) (forget kill σ) := by
  rw [evS]
  have : rndW C b kill = fun σ => match evSs C b σ with
    | .next σ => .next (forget kill σ)
    | .cnt σ => .cnt (forget kill σ)
    | .brk σ => .brk (forget kill σ)
    | x => x := by
    funext σ
    unfold rndW kilF
    cases evSs C b σ <;> rfl
  rw [this] <;> rfl
end

/-! ### loops -/
@[simp] theorem forL_nil (body : D → Env → Fl) (σ : Env) : forL body [] σ = .next σ := id rfl
theorem forL_cons (body : D → Env → Fl) (d : D) (ds : List D) (σ : Env) : forL body (d :: ds) σ = match body d σ with
    | .next σ => forL body ds σ
    | .cnt σ => forL body ds σ
    | .brk σ => .next σ
    | x => x := rfl
theorem forL_map {α : Type} (body : D → Env → Fl) (f : α → D) (a : α) (l : List α) (σ : Env) : forL body ((a :: l).map f) σ = match body (f a) σ with
    | .next σ => forL body (l.map f) σ
    | .cnt σ => forL body (l.map f) σ
    | .brk σ => .next σ
    | x => x := rfl
/-- a for that goes on to its end: the names it changes are a fold -/
theorem forL_fold {α β : Type} {body : D → Env → Fl} (enc : β → Env) (step : β → α → β) (P : β → Prop) (f : α → D) : ∀ {l : List α} {b : β}, P b →
    (∀ a ∈ l, ∀ b, P b → (body (f a) (enc b) = .next (enc (step b a)) ∨ body (f a) (enc b) = .cnt (enc (step b a))) ∧ P (step b a)) → forL body (l.map f) (enc b) = .next (enc (l.foldl step b)) ∧ P (l.foldl step b)
  | [], b, hp, _ => ⟨rfl, hp⟩
  | a :: l, b, hp, h => by
    obtain ⟨h1, h2⟩ := h a List.mem_cons_self b hp
    have ih := forL_fold enc step P f (l := l) (b := step b a) h2 fun a ha => h a (List.mem_cons_of_mem _ ha)
    rw [forL_map]
    rcases h1 with h1 | h1 <;> (rw [h1]; exact ih)
theorem forL_foldN {α β : Type} {body : D → Env → Fl} (enc : β → Env) (step : β → α → β) (P : Nat → β → Prop) (f : α → D) : ∀ {l : List α} {b : β} {n : Nat}, P n b →
    (∀ i a, l[i]? = some a → ∀ b, P (n + i) b → (body (f a) (enc b) = .next (enc (step b a)) ∨ body (f a) (enc b) = .cnt (enc (step b a))) ∧ P (n + i + 1) (step b a)) → forL body (l.map f) (enc b) = .next (enc (l.foldl step b)) ∧ P (n + l.length) (l.foldl step b)
  | [], b, n, hp, _ => ⟨rfl, hp⟩
  | a :: l, b, n, hp, h => by
    obtain ⟨h1, h2⟩ := h 0 a rfl b hp
    have ih := forL_foldN enc step P f (l := l) (b := step b a) (n := n + 1) h2 fun i a' ha b' hb => by
      have := h (i + 1) a' (by simpa using ha) b' (by rw [show n + (i + 1) = n + 1 + i by omega]; exact hb)
      rw [show n + (i + 1) + 1 = n + 1 + i + 1 by omega] at this
      exact this
    rw [forL_map, List.length_cons, show n + (l.length + 1) = n + 1 + l.length by omega]
    rcases h1 with h1 | h1 <;> (rw [h1]; exact ih)
/-- a for that returns at the first item that is so -/
theorem forL_find {α : Type} {body : D → Env → Fl} {σ σr : Env} {r : R} (p : α → Bool) (f : α → D) : ∀ {l : List α},
    (∀ a ∈ l, p a = false → body (f a) σ = .next σ ∨ body (f a) σ = .cnt σ) → (∀ a ∈ l, p a = true → ∃ σr, body (f a) σ = .ret r σr) → (l.any p = false → forL body (l.map f) σ = .next σ) ∧ (l.any p = true → ∃ σr, forL body (l.map f) σ = .ret r σr)
  | [], _, _ => ⟨fun _ => rfl, nofun⟩
  | a :: l, h1, h2 => by
    have ih := forL_find (σr := σr) p f (l := l) (fun a ha => h1 a (List.mem_cons_of_mem _ ha)) fun a ha => h2 a (List.mem_cons_of_mem _ ha)
    rw [forL_map, List.any_cons]
    cases hp : p a with
    | false =>
      rcases h1 a List.mem_cons_self hp with e | e <;> (rw [e]; simpa using ih)
    | true =>
      obtain ⟨σr, e⟩ := h2 a List.mem_cons_self hp
      rw [e]
      exact ⟨nofun, fun _ => ⟨σr, rfl⟩⟩

/-! ### calls -/
def resF (io : List Bool) : Fl → CR
  | .ret r σ => (match backs io σ with | some bs => .ok r bs | none => .no)
  | .next σ => (match backs io σ with | some bs => .ok (.v .non) bs | none => .no)
  | _ => .no
@[simp] theorem resF_ret (io : List Bool) (r : R) (σ : Env) : resF io (.ret r σ) = match backs io σ with | some bs => .ok r bs | none => .no := id rfl
@[simp] theorem resF_next (io : List Bool) (σ : Env) : resF io (.next σ) = match backs io σ with | some bs => .ok (.v .non) bs | none => .no := id rfl
theorem callF_def {wh : (Env → Out Bool) → (Env → Fl) → Env → Fl} {tbl : Nat → Option Fn} (k f : Nat) (rs : List R) {np ns : Nat} {io : List Bool} {body : Ss} (ht : tbl f = some ⟨np, ns, io, body⟩) (hio : ioFits io rs = true) :
    callF wh tbl (k + 1) f rs = resF io (evSs ⟨wh, callF wh tbl k, fun f => ((tbl f).map (·.io)).getD []⟩ body (rs.map some ++ List.replicate (ns - np) none)) := by
  rw [callF, ht]
  simp only [hio, if_true]
  unfold resF
  generalize evSs _ body _ = q
  cases q <;> rfl
end Pu
end
section
/-! PvV: more of simp's rows: rows, slices, ranges, kinds. -/
namespace Pu
open Pv

/-! ### rows at their places -/
@[simp] theorem ix_t0 (a : D) (l : List D) : o_ix [.tup (a :: l), .int 0] = some (.v a) := by simp [o_ix, ixN]
@[simp] theorem ix_t1 (a b : D) (l : List D) : o_ix [.tup (a :: b :: l), .int 1] = some (.v b) := by
  have h : (1 : Int) < ((a :: b :: l).length : Int) := by simp; omega
  simp only [o_ix, ixN, h, if_true]; rfl
@[simp] theorem ix_l0 (a : D) (l : List D) : o_ix [.lst (a :: l), .int 0] = some (.v a) := by simp [o_ix, ixN]
@[simp] theorem ix_l1 (a b : D) (l : List D) : o_ix [.lst (a :: b :: l), .int 1] = some (.v b) := by
  have h : (1 : Int) < ((a :: b :: l).length : Int) := by simp; omega
  simp only [o_ix, ixN, h, if_true]; rfl
theorem ixN_nat (n k : Nat) : ixN n (k : Int) = if k < n then some k else none := by
  unfold ixN
  rw [if_pos (by omega)]
  by_cases h : k < n
  · rw [if_pos h, if_pos (by omega)]
    simp
  · rw [if_neg h, if_neg (by omega)]
@[simp] theorem ix_tn (l : List D) (k : Nat) : o_ix [.tup l, .int (k : Int)] = l[k]?.map .v := by
  simp only [o_ix, ixN_nat]
  by_cases h : k < l.length
  · rw [if_pos h]; rfl
  · rw [if_neg h, List.getElem?_eq_none (by omega)]; rfl
@[simp] theorem ix_ln (l : List D) (k : Nat) : o_ix [.lst l, .int (k : Int)] = l[k]?.map .v := by
  simp only [o_ix, ixN_nat]
  by_cases h : k < l.length
  · rw [if_pos h]; rfl
  · rw [if_neg h, List.getElem?_eq_none (by omega)]; rfl
@[simp] theorem ix_m (kvs : List (D × D)) (k : List Nat) : o_ix [.dic kvs, .str k] = (mlook kvs (.str k)).map .v := by simp [o_ix, keyOk]
@[simp] theorem ix_mi (kvs : List (D × D)) (k : Int) : o_ix [.dic kvs, .int k] = (mlook kvs (.int k)).map .v := by simp [o_ix, keyOk]
theorem slN_nat (n k : Nat) : slN n (k : Int) = min k n := by unfold slN; rw [if_pos (by omega)]; simp
@[simp] theorem cut_nn {α : Type} (l : List α) : cut l none none = l := by simp [cut]
@[simp] theorem cut_hi {α : Type} (l : List α) (k : Nat) : cut l none (some (k : Int)) = l.take k := by
  simp only [cut, slN_nat, List.drop_zero, Nat.sub_zero]
  exact List.take_eq_take_iff.mpr (by omega)
@[simp] theorem cut_lo {α : Type} (l : List α) (k : Nat) : cut l (some (k : Int)) none = l.drop k := by
  simp only [cut, slN_nat]
  rw [← List.length_drop, List.take_length]
  by_cases h : k ≤ l.length
  · rw [Nat.min_eq_left h]
  · rw [Nat.min_eq_right (by omega), List.drop_length, List.drop_eq_nil_of_le (by omega)]
@[simp] theorem cut_1 {α : Type} (l : List α) : cut l none (some 1) = l.take 1 := cut_hi l 1
@[simp] theorem cut_l1 {α : Type} (l : List α) : cut l (some 1) none = l.drop 1 := cut_lo l 1

@[simp] theorem asg_v (i : Nat) (r : R) (σ : Env) : assign (.v i) r σ = if i < σ.length then some (σ.set i (some r)) else none := by rw [assign]
@[simp] theorem asg_t (ts : List T) (l : List D) (σ : Env) : assign (.t ts) (.v (.tup l)) σ = assigns ts l σ := by rw [assign]
/-! ### ranges -/
theorem rangeD_nat (n : Nat) : rangeD 0 (n : Int) = (List.range n).map fun (k : Nat) => D.int (k : Int) := by
  unfold rangeD
  simp
@[simp] theorem walk_val (d : D) : walk .val [d] = itemsOf d := id rfl
@[simp] theorem walk_rn (n : Nat) (h : n ≤ 100000) : walk .range [.int (n : Int)] = some ((List.range n).map fun (k : Nat) => D.int (k : Int)) := by
  rw [← rangeD_nat]
  exact walk_range (inR_nat (by omega))
@[simp] theorem items_t (l : List D) : itemsOf (.tup l) = some l := id rfl
@[simp] theorem items_l (l : List D) : itemsOf (.lst l) = some l := id rfl
@[simp] theorem items_m (l : List (D × D)) : itemsOf (.dic l) = some (l.map (·.1)) := id rfl
@[simp] theorem items_s (l : List Nat) : itemsOf (.str l) = some (l.map fun c => .str [c]) := id rfl

/-! ### sums, alls, anys of maps -/
@[simp] theorem all_mapS {α : Type} (p : α → Bool) (l : List α) : o_all [.lst (l.map fun x => .bl (p x))] = some (.v (.bl (l.all p))) := all_map p l
@[simp] theorem any_mapS {α : Type} (p : α → Bool) (l : List α) : o_any [.lst (l.map fun x => .bl (p x))] = some (.v (.bl (l.any p))) := any_map p l
@[simp] theorem toInts_mapS {α : Type} (g : α → Int) (l : List α) : toInts (l.map fun x => .int (g x)) = some (l.map g) := by
  induction l with
  | nil => rfl
  | cons a l ih => simp only [List.map_cons, toInts, ih, Option.map_some]
@[simp] theorem sum_mapS {α : Type} (g : α → Int) (l : List α) : o_sum [.lst (l.map fun x => .int (g x))] = some (.v (.int (l.map g).sum)) := by simp [o_sum]
@[simp] theorem noDics_map {α : Type} (f : α → D) (l : List α) (h : ∀ x, noDic (f x) = true) : noDics (l.map f) = true := by
  induction l with
  | nil => rfl
  | cons a l ih => simp [noDics, h, ih]
theorem deps_map {α : Type} (f : α → D) (n : Nat) (l : List α) (h : ∀ x, dep (f x) ≤ n) : deps (l.map f) ≤ n := deps_le fun d hd => by
  obtain ⟨x, _, rfl⟩ := List.mem_map.mp hd
  exact h x
theorem any_map' {α : Type} (f : α → D) (p : D → Bool) (l : List α) : (l.map f).any p = l.any fun x => p (f x) := by simp; rfl
/-! ### comprehensions that change something -/
section
variable {C : Ctx}
def kOut (own : List Nat) (σ1 : Env) (out : List D) (σ2 : Env) : Out R := .ok (.l out) (restore σ1 own σ2)
@[simp] theorem kOut_eq (own : List Nat) (σ1 : Env) (out : List D) (σ2 : Env) : kOut own σ1 out σ2 = .ok (.l out) (restore σ1 own σ2) := id rfl
def kComp (C : Ctx) (own : List Nat) (t : T) (k : It) (cs : Es) (g : Gs) (qs : List D) (σ1 : Env) : Out R := if noOwn σ1 own = true then (match walk k qs with
    | some ds => (compL (turn1 C own t cs g) ds (forget own σ1) []).bind (kOut own σ1)
    | none => .no) else .no
@[simp] theorem kComp_eq (own : List Nat) (t : T) (k : It) (cs : Es) (g : Gs) (qs : List D) (σ1 : Env) : kComp C own t k cs g qs σ1 = if noOwn σ1 own = true then (match walk k qs with
    | some ds => (compL (turn1 C own t cs g) ds (forget own σ1) []).bind (kOut own σ1)
    | none => .no) else .no := id rfl
@[simp low] theorem ev_compK (own : List Nat) (t : T) (k : It) (es cs : Es) (g : Gs) (σ : Env) : ev C (.comp own t k es cs g) σ = (evDs C es σ).bind (kComp C own t k cs g) := by
  rw [ev_comp]
  cases evDs C es σ with
  | no => rfl
  | ok qs σ1 =>
    simp only [Out.bind, kComp]
    cases walk k qs <;> rfl
def cEs : List D → Es
  | [] => .nil
  | d :: ds => .cons (.c d) (cEs ds)
theorem cEs_ev (σ : Env) : ∀ qs : List D, evDs C (cEs qs) σ = .ok qs σ
  | [] => by rw [cEs]; simp
  | d :: ds => by rw [cEs]; simp [cEs_ev σ ds]
theorem cEs_pv (σ : Env) : ∀ qs : List D, pvDs C (cEs qs) σ = some qs
  | [] => by rw [cEs]; simp
  | d :: ds => by rw [cEs]; simp [cEs_pv σ ds]
def compV (C : Ctx) (own : List Nat) (t : T) (k : It) (cs : Es) (g : Gs) (qs : List D) (σ : Env) : Option R := if noOwn σ own && subL (t.slots ++ slotsG g) own then (walk k qs).bind fun ds =>
      (flatM (fun d => (assign t (.v d) (forget own σ)).bind fun σ' => (pvC C cs σ').bind fun b => if b then pvG C g σ' else some []) ds).bind rowL else none
@[simp] theorem compV_eq (own : List Nat) (t : T) (k : It) (cs : Es) (g : Gs) (qs : List D) (σ : Env) : compV C own t k cs g qs σ = if noOwn σ own && subL (t.slots ++ slotsG g) own then (walk k qs).bind fun ds =>
      (flatM (fun d => (assign t (.v d) (forget own σ)).bind fun σ' => (pvC C cs σ').bind fun b => if b then pvG C g σ' else some []) ds).bind rowL else none := by rw [compV]
@[simp high] theorem kComp_pure (own : List Nat) (t : T) (k : It) (cs : Es) (g : Gs) (qs : List D) (σ : Env) (h : isOk (compV C own t k cs g qs σ)) : kComp C own t k cs g qs σ = .ok ((compV C own t k cs g qs σ).getD (.v .non)) σ := by
  obtain ⟨r, hr⟩ := h
  have h1 : pv C (.comp own t k (cEs qs) cs g) σ = some r := by
    rw [← hr, pv_comp, cEs_pv]
    simp only [Option.bind_some]
    rw [compV]
  have h2 := pv_ok C _ _ _ h1
  rw [ev_compK, cEs_ev] at h2
  rw [hr]
  exact h2
@[simp] theorem compL_nil (body : D → Env → List D → Out (List D)) (σ : Env) (acc : List D) : compL body [] σ acc = .ok acc σ := id rfl
theorem compL_cons (body : D → Env → List D → Out (List D)) (d : D) (ds : List D) (σ : Env) (acc : List D) : compL body (d :: ds) σ acc = (body d σ acc).bind fun acc σ => compL body ds σ acc := rfl
def kElt (acc : List D) (r : R) (σ : Env) : Out (List D) := if small acc.length = true then .ok (acc ++ [r.frz]) σ else .no
@[simp] theorem kElt_eq (acc : List D) (r : R) (σ : Env) : kElt acc r σ = if small acc.length = true then .ok (acc ++ [r.frz]) σ else .no := id rfl
@[simp] theorem evG_elt (e : E) (σ : Env) (acc : List D) : evG C (.elt e) σ acc = (ev C e σ).bind (kElt acc) := by rw [evG] <;> rfl
def kT2 (own : List Nat) (acc : List D) (σ : Env) : Out (List D) := .ok acc (forget own σ)
@[simp] theorem kT2_eq (own : List Nat) (acc : List D) (σ : Env) : kT2 own acc σ = .ok acc (forget own σ) := id rfl
def kT1 (C : Ctx) (own : List Nat) (g : Gs) (acc : List D) (b : Bool) (σ : Env) : Out (List D) := if b = true then (evG C g σ acc).bind (kT2 own) else .ok acc (forget own σ)
@[simp] theorem kT1_eq (own : List Nat) (g : Gs) (acc : List D) (b : Bool) (σ : Env) : kT1 C own g acc b σ = if b = true then (evG C g σ acc).bind (kT2 own) else .ok acc (forget own σ) := id rfl
theorem turn1_eq (own : List Nat) (t : T) (cs : Es) (g : Gs) (d : D) (σ : Env) (acc : List D) : turn1 C own t cs g d σ acc = match assign t (.v d) σ with
    | some σ => (evC C cs σ).bind (kT1 C own g acc)
    | none => .no := by
  unfold turn1
  cases assign t (.v d) σ <;> rfl
end
end Pu
end
section
/-! PvX: dicts whose keys are of one kind, as rows of pairs. -/
namespace Pu
open Pv
section
variable {κ α : Type} [DecidableEq κ]
/-- keys that are told apart as their values are -/
structure KeyI (key : κ → D) : Prop where
  ok : ∀ x, keyOk (key x) = true
  beq : ∀ a b, D.beq (key a) (key b) = decide (a = b)
theorem keyS : KeyI (κ := List Nat) D.str := ⟨fun _ => rfl, fun a b => by rw [D.beq]; by_cases h : a = b <;> simp [h]⟩
theorem keyN : KeyI (κ := Int) D.int := ⟨fun _ => rfl, fun a b => by rw [D.beq]; by_cases h : a = b <;> simp [h]⟩
theorem keyNat : KeyI (κ := Nat) (fun n => D.int (n : Int)) := ⟨fun _ => rfl, fun a b => by rw [D.beq]; by_cases h : a = b <;> simp [h]; omega⟩
variable {key : κ → D} (hk : KeyI key) (f : α → D)
def kvG (key : κ → D) (f : α → D) (l : List (κ × α)) : List (D × D) := l.map fun p => (key p.1, f p.2)
def lkG : List (κ × α) → κ → Option α
  | [], _ => none
  | (a, c) :: r, x => if a = x then some c else lkG r x
@[simp] theorem kvG_nil : kvG key f [] = [] := rfl
@[simp] theorem kvG_len (l : List (κ × α)) : (kvG key f l).length = l.length := by simp [kvG]
theorem kvG_items (l : List (κ × α)) : (kvG key f l).map (·.1) = l.map fun p => key p.1 := by simp [kvG]
include hk in
theorem mlook_kvG : ∀ (l : List (κ × α)) (x : κ), mlook (kvG key f l) (key x) = (lkG l x).map f
  | [], x => rfl
  | (a, c) :: r, x => by
    have ih := mlook_kvG r x
    unfold kvG at ih ⊢
    rw [List.map_cons, mlook, hk.beq, lkG]
    by_cases h : a = x
    · subst h; simp
    · simp [h, ih]
theorem lkG_none {l : List (κ × α)} {x : κ} : lkG l x = none ↔ x ∉ l.map (·.1) := by
  induction l with
  | nil => simp [lkG]
  | cons p l ih =>
    obtain ⟨a, c⟩ := p
    rw [lkG]
    by_cases h : a = x
    · simp [h]
    · have h' : ¬ x = a := fun z => h z.symm
      rw [if_neg h, ih]
      simp [h']
theorem lkG_mem {l : List (κ × α)} {x : κ} {v : α} (h : lkG l x = some v) : (x, v) ∈ l := by
  induction l with
  | nil => cases h
  | cons p l ih =>
    obtain ⟨a, c⟩ := p
    rw [lkG] at h
    by_cases e : a = x
    · rw [if_pos e] at h
      cases h
      subst e
      exact List.mem_cons_self
    · rw [if_neg e] at h
      exact List.mem_cons_of_mem _ (ih h)
theorem lkG_at {l : List (κ × α)} (hd : (l.map (·.1)).Nodup) {p : κ × α} (hp : p ∈ l) : lkG l p.1 = some p.2 := by
  induction l with
  | nil => cases hp
  | cons q l ih =>
    obtain ⟨a, c⟩ := q
    have hd := List.nodup_cons.mp (show ((a, c) :: l).map (·.1) |>.Nodup from hd)
    rw [lkG]
    rcases List.mem_cons.mp hp with rfl | hp
    · simp
    · have : ¬ a = p.1 := fun z => hd.1 (by rw [z]; exact List.mem_map.mpr ⟨p, hp, rfl⟩)
      rw [if_neg this, ih hd.2 hp]
/-- a key's value set -/
def putG (l : List (κ × α)) (x : κ) (v : α) : List (κ × α) := if x ∈ l.map (·.1) then l.map fun p => if p.1 = x then (p.1, v) else p else l ++ [(x, v)]
include hk in
theorem mput_kvG (l : List (κ × α)) (x : κ) (v : α) : mput (kvG key f l) (key x) (f v) = kvG key f (putG l x v) := by
  unfold mput mhas putG
  rw [mlook_kvG hk]
  by_cases h : x ∈ l.map (·.1)
  · have h1 : lkG l x ≠ none := fun z => lkG_none.mp z h
    obtain ⟨w, hw⟩ := Option.ne_none_iff_exists'.mp h1
    rw [hw, if_pos h]
    simp only [Option.map_some, Option.isSome_some, if_true]
    unfold mset kvG
    rw [List.map_map, List.map_map]
    refine List.map_congr_left fun p _ => ?_
    simp only [Function.comp, hk.beq, decide_eq_true_eq]
    split <;> rfl
  · rw [lkG_none.mpr h, if_neg h]
    simp [kvG]
theorem names_putG (l : List (κ × α)) (x : κ) (v : α) : (putG l x v).map (·.1) = if x ∈ l.map (·.1) then l.map (·.1) else l.map (·.1) ++ [x] := by
  unfold putG
  split
  · rw [List.map_map]
    refine List.map_congr_left fun p _ => ?_
    simp only [Function.comp]
    split <;> rfl
  · simp
theorem putG_len (l : List (κ × α)) (x : κ) (v : α) : (putG l x v).length ≤ l.length + 1 := by
  unfold putG
  split <;> simp
theorem putG_nodup {l : List (κ × α)} (h : (l.map (·.1)).Nodup) (x : κ) (v : α) : ((putG l x v).map (·.1)).Nodup := by
  rw [names_putG]
  split
  · exact h
  · rename_i hx
    exact List.nodup_append.mpr ⟨h, by simp, fun a ha b hb => by
      rw [List.mem_singleton.mp hb]
      exact fun z => hx (by rw [← z]; exact ha)⟩
theorem lk_putG (l : List (κ × α)) (x y : κ) (v : α) : lkG (putG l x v) y = if x = y then some v else lkG l y := by
  unfold putG
  by_cases h : x ∈ l.map (·.1)
  · rw [if_pos h]
    induction l with
    | nil => cases h
    | cons p l ih =>
      obtain ⟨a, c⟩ := p
      simp only [List.map_cons, lkG]
      by_cases e : a = x
      · subst e
        simp only [if_true, lkG]
        by_cases e2 : a = y
        · simp [e2]
        · simp only [if_neg e2]
          by_cases h2 : a ∈ l.map (·.1)
          · rw [ih h2, if_neg e2]
          · congr 1
            clear ih h
            induction l with
            | nil => rfl
            | cons q l ih2 =>
              obtain ⟨b, d⟩ := q
              simp only [List.map_cons, List.mem_cons, not_or] at h2
              have : ¬ b = a := fun z => h2.1 z.symm
              simp only [List.map_cons, if_neg this, ih2 h2.2]
      · simp only [if_neg e, lkG]
        have h2 : x ∈ l.map (·.1) := by
          rcases List.mem_cons.mp h with z | z
          · exact absurd z.symm e
          · exact z
        by_cases e2 : a = y
        · have : ¬ x = y := fun z => e (by rw [z, e2])
          simp [e2, this]
        · simp only [if_neg e2]
          exact ih h2
  · rw [if_neg h]
    induction l with
    | nil => simp [lkG]
    | cons p l ih =>
      obtain ⟨a, c⟩ := p
      simp only [List.map_cons, List.mem_cons, not_or] at h
      simp only [List.cons_append, lkG]
      by_cases e : a = y
      · have : ¬ x = y := fun z => h.1 (by rw [z, e])
        simp [e, this]
      · simp only [if_neg e]
        exact ih h.2
include hk in
theorem mputs_kvG : ∀ {l m : List (κ × α)}, ((m ++ l).map (·.1)).Nodup → (kvG key f l).foldl (fun m p => mput m p.1 p.2) (kvG key f m) = kvG key f (m ++ l)
  | [], m, _ => by simp
  | (a, c) :: l, m, h => by
    have hn : a ∉ m.map (·.1) := fun z => by
      rw [List.map_append, List.nodup_append] at h
      exact h.2.2 a z a (by simp) rfl
    have e : mput (kvG key f m) (key a) (f c) = kvG key f (m ++ [(a, c)]) := by
      rw [mput_kvG hk, putG, if_neg hn]
    have ih := mputs_kvG (l := l) (m := m ++ [(a, c)]) (by rw [List.append_assoc]; exact h)
    rw [List.append_assoc] at ih
    rw [show kvG key f ((a, c) :: l) = (key a, f c) :: kvG key f l from rfl, List.foldl_cons, e]
    exact ih
theorem pairs_kvG : ∀ l : List (κ × α), pairsOf (l.map fun p => .tup [key p.1, f p.2]) = some (kvG key f l)
  | [] => rfl
  | (a, c) :: l => by
    rw [List.map_cons, pairsOf, pairs_kvG l]
    rfl
include hk in
theorem dict_kvG {l : List (κ × α)} (h : (l.map (·.1)).Nodup) : o_dictOf [.lst (l.map fun p => .tup [key p.1, f p.2])] = some (.m (kvG key f l)) := by
  have hk2 : ((kvG key f l).all fun p => keyOk p.1) = true := List.all_eq_true.mpr fun p hp => by
    obtain ⟨q, _, rfl⟩ := List.mem_map.mp hp
    exact hk.ok _
  have hm : mputs (kvG key f l) = kvG key f l := by
    have := mputs_kvG hk f (l := l) (m := []) h
    simpa [mputs] using this
  show ((pairsOf (l.map fun p => .tup [key p.1, f p.2])).bind fun ps => if (ps.all fun p => keyOk p.1) = true then some (R.m (mputs ps)) else none) = _
  rw [pairs_kvG, Option.bind_some, if_pos hk2, hm]
end
end Pu
end
section
set_option Elab.async false
set_option linter.all false
namespace Tk06
open Pv Pu
noncomputable def Ko (k : Nat) : Ctx := ⟨whileW, callF whileW tbl k, fun f => ((tbl f).map (·.io)).getD []⟩
@[simp] theorem Ko_cf (k f : Nat) (rs : List R) : (Ko k).cf f rs = cf k f rs := rfl
@[simp] theorem uS_goals_of_1 : S_goals_of_1 = (.par [3, 4] (.cons (.op .dic .nil) (.cons (.op .listOf (.cons (.v 2) .nil)) .nil))) := rfl
@[simp] theorem uS_goals_of_2 : S_goals_of_2 = (.asg (.v 5) (.pop 4)) := rfl
@[simp] theorem uQ_goals_of_3 : Q_goals_of_3 = (.op .nin (.cons (.v 5) (.cons (.v 3) .nil))) := rfl
@[simp] theorem uS_goals_of_4 : S_goals_of_4 = (.setix 3 (.v 5) (.c (.bl true))) := rfl
@[simp] theorem uC_goals_of_5 : C_goals_of_5 = (.comp [6] (.v 6) .val (.cons (.v 1) .nil) (.cons (.op .eq (.cons (.op .ix (.cons (.op .ix (.cons (.v 0) (.cons (.v 6) .nil))) (.cons (.c (.int 0)) .nil))) (.cons (.v 5) .nil))) .nil) (.elt (.op .ix (.cons (.op .ix (.cons (.v 0) (.cons (.v 6) .nil))) (.cons (.c (.int 1)) .nil))))) := rfl
@[simp] theorem uS_goals_of_6 : S_goals_of_6 = (.ext 4 C_goals_of_5) := rfl
@[simp] theorem uB_goals_of_7 : B_goals_of_7 = (.cons S_goals_of_4 (.cons S_goals_of_6 .nil)) := rfl
@[simp] theorem uS_goals_of_8 : S_goals_of_8 = (.ife Q_goals_of_3 B_goals_of_7 .nil) := rfl
@[simp] theorem uB_goals_of_9 : B_goals_of_9 = (.cons S_goals_of_2 (.cons S_goals_of_8 .nil)) := rfl
@[simp] theorem uS_goals_of_10 : S_goals_of_10 = (.whl (.op .ne (.cons (.v 4) (.cons (.op .lst .nil) .nil))) B_goals_of_9 [5]) := rfl
@[simp] theorem uS_goals_of_11 : S_goals_of_11 = (.ret (.op .tupleOf (.cons (.op .sorted (.cons (.v 3) .nil)) .nil))) := rfl
@[simp] theorem uB_goals_of_12 : B_goals_of_12 = (.cons S_goals_of_1 (.cons S_goals_of_10 (.cons S_goals_of_11 .nil))) := rfl
@[simp] theorem ub_goals_of : b_goals_of = B_goals_of_12 := rfl
@[simp] theorem uS_sources_of_1 : S_sources_of_1 = (.par [3, 4] (.cons (.op .dic .nil) (.cons (.op .listOf (.cons (.v 2) .nil)) .nil))) := rfl
@[simp] theorem uS_sources_of_2 : S_sources_of_2 = (.asg (.v 5) (.pop 4)) := rfl
@[simp] theorem uQ_sources_of_3 : Q_sources_of_3 = (.op .nin (.cons (.v 5) (.cons (.v 3) .nil))) := rfl
@[simp] theorem uS_sources_of_4 : S_sources_of_4 = (.setix 3 (.v 5) (.c (.bl true))) := rfl
@[simp] theorem uC_sources_of_5 : C_sources_of_5 = (.comp [6] (.v 6) .val (.cons (.v 1) .nil) (.cons (.op .eq (.cons (.op .ix (.cons (.op .ix (.cons (.v 0) (.cons (.v 6) .nil))) (.cons (.c (.int 1)) .nil))) (.cons (.v 5) .nil))) .nil) (.elt (.op .ix (.cons (.op .ix (.cons (.v 0) (.cons (.v 6) .nil))) (.cons (.c (.int 0)) .nil))))) := rfl
@[simp] theorem uS_sources_of_6 : S_sources_of_6 = (.ext 4 C_sources_of_5) := rfl
@[simp] theorem uB_sources_of_7 : B_sources_of_7 = (.cons S_sources_of_4 (.cons S_sources_of_6 .nil)) := rfl
@[simp] theorem uS_sources_of_8 : S_sources_of_8 = (.ife Q_sources_of_3 B_sources_of_7 .nil) := rfl
@[simp] theorem uB_sources_of_9 : B_sources_of_9 = (.cons S_sources_of_2 (.cons S_sources_of_8 .nil)) := rfl
@[simp] theorem uS_sources_of_10 : S_sources_of_10 = (.whl (.op .ne (.cons (.v 4) (.cons (.op .lst .nil) .nil))) B_sources_of_9 [5]) := rfl
@[simp] theorem uS_sources_of_11 : S_sources_of_11 = (.ret (.op .tupleOf (.cons (.op .sorted (.cons (.v 3) .nil)) .nil))) := rfl
@[simp] theorem uB_sources_of_12 : B_sources_of_12 = (.cons S_sources_of_1 (.cons S_sources_of_10 (.cons S_sources_of_11 .nil))) := rfl
@[simp] theorem ub_sources_of : b_sources_of = B_sources_of_12 := rfl
@[simp] theorem uC_places_of_1 : C_places_of_1 = (.comp [2] (.v 2) .val (.cons (.v 1) .nil) .nil (.elt (.op .ix (.cons (.op .ix (.cons (.v 0) (.cons (.v 2) .nil))) (.cons (.c (.int 0)) .nil))))) := rfl
@[simp] theorem uC_places_of_2 : C_places_of_2 = (.comp [2] (.v 2) .val (.cons (.v 1) .nil) .nil (.elt (.op .ix (.cons (.op .ix (.cons (.v 0) (.cons (.v 2) .nil))) (.cons (.c (.int 1)) .nil))))) := rfl
@[simp] theorem uS_places_of_3 : S_places_of_3 = (.ret (.op .tupleOf (.cons (.op .sset (.cons (.op .add (.cons C_places_of_1 (.cons C_places_of_2 .nil))) .nil)) .nil))) := rfl
@[simp] theorem uB_places_of_4 : B_places_of_4 = (.cons S_places_of_3 .nil) := rfl
@[simp] theorem ub_places_of : b_places_of = B_places_of_4 := rfl
@[simp] theorem uC_rings_of_1 : C_rings_of_1 = (.comp [10] (.v 10) .val (.cons (.call 2 (.cons (.v 0) (.cons (.v 1) .nil))) .nil) .nil (.elt (.op .tup (.cons (.v 10) (.cons (.call 0 (.cons (.v 0) (.cons (.v 1) (.cons (.op .tup (.cons (.v 10) .nil)) .nil)))) .nil))))) := rfl
@[simp] theorem uS_rings_of_2 : S_rings_of_2 = (.asg (.v 2) (.op .dictOf (.cons C_rings_of_1 .nil))) := rfl
@[simp] theorem uS_rings_of_3 : S_rings_of_3 = (.par [3, 4] (.cons (.op .lst .nil) (.cons (.op .dic .nil) .nil))) := rfl
@[simp] theorem uS_rings_of_4 : S_rings_of_4 = (.asg (.t [(.v 6), (.v 7)]) (.op .tup (.cons (.op .ix (.cons (.op .ix (.cons (.v 0) (.cons (.v 5) .nil))) (.cons (.c (.int 0)) .nil))) (.cons (.op .ix (.cons (.op .ix (.cons (.v 0) (.cons (.v 5) .nil))) (.cons (.c (.int 1)) .nil))) .nil)))) := rfl
@[simp] theorem uQ_rings_of_5 : Q_rings_of_5 = (.and (.op .nin (.cons (.v 5) (.cons (.v 4) .nil))) (.op .in_ (.cons (.v 6) (.cons (.op .ix (.cons (.v 2) (.cons (.v 7) .nil))) .nil)))) := rfl
@[simp] theorem uC_rings_of_6 : C_rings_of_6 = (.comp [9] (.v 9) .val (.cons (.v 1) .nil) (.cons (.call 4 (.cons (.op .ix (.cons (.v 0) (.cons (.v 9) .nil))) (.cons (.v 2) (.cons (.v 6) .nil)))) .nil) (.elt (.v 9))) := rfl
@[simp] theorem uS_rings_of_7 : S_rings_of_7 = (.asg (.v 8) (.op .tupleOf (.cons C_rings_of_6 .nil))) := rfl
@[simp] theorem uS_rings_of_8 : S_rings_of_8 = (.setix 4 (.v 9) (.c (.bl true))) := rfl
@[simp] theorem uB_rings_of_9 : B_rings_of_9 = (.cons S_rings_of_8 .nil) := rfl
@[simp] theorem uS_rings_of_10 : S_rings_of_10 = (.for (.v 9) .val (.cons (.v 8) .nil) B_rings_of_9 [9]) := rfl
@[simp] theorem uS_rings_of_11 : S_rings_of_11 = (.app 3 (.v 8)) := rfl
@[simp] theorem uB_rings_of_12 : B_rings_of_12 = (.cons S_rings_of_7 (.cons S_rings_of_10 (.cons S_rings_of_11 .nil))) := rfl
@[simp] theorem uS_rings_of_13 : S_rings_of_13 = (.ife Q_rings_of_5 B_rings_of_12 .nil) := rfl
@[simp] theorem uB_rings_of_14 : B_rings_of_14 = (.cons S_rings_of_4 (.cons S_rings_of_13 .nil)) := rfl
@[simp] theorem uS_rings_of_15 : S_rings_of_15 = (.for (.v 5) .val (.cons (.v 1) .nil) B_rings_of_14 [5, 6, 7, 8, 9]) := rfl
@[simp] theorem uS_rings_of_16 : S_rings_of_16 = (.ret (.op .tupleOf (.cons (.op .sorted (.cons (.v 3) .nil)) .nil))) := rfl
@[simp] theorem uB_rings_of_17 : B_rings_of_17 = (.cons S_rings_of_2 (.cons S_rings_of_3 (.cons S_rings_of_15 (.cons S_rings_of_16 .nil)))) := rfl
@[simp] theorem ub_rings_of : b_rings_of = B_rings_of_17 := rfl
@[simp] theorem uS_is_beside_1 : S_is_beside_1 = (.par [3, 4] (.cons (.op .ix (.cons (.v 0) (.cons (.c (.int 0)) .nil))) (.cons (.op .ix (.cons (.v 0) (.cons (.c (.int 1)) .nil))) .nil))) := rfl
@[simp] theorem uS_is_beside_2 : S_is_beside_2 = (.ret (.and (.op .in_ (.cons (.v 3) (.cons (.op .ix (.cons (.v 1) (.cons (.v 2) .nil))) .nil))) (.op .in_ (.cons (.v 2) (.cons (.op .ix (.cons (.v 1) (.cons (.v 4) .nil))) .nil))))) := rfl
@[simp] theorem uB_is_beside_3 : B_is_beside_3 = (.cons S_is_beside_1 (.cons S_is_beside_2 .nil)) := rfl
@[simp] theorem ub_is_beside : b_is_beside = B_is_beside_3 := rfl
@[simp] theorem uS_off_rings_1 : S_off_rings_1 = (.asg (.v 2) (.call 3 (.cons (.v 0) (.cons (.v 1) .nil)))) := rfl
@[simp] theorem uC_off_rings_2 : C_off_rings_2 = (.comp [4] (.v 4) .val (.cons (.v 2) .nil) .nil (.elt (.op .in_ (.cons (.v 3) (.cons (.v 4) .nil))))) := rfl
@[simp] theorem uC_off_rings_3 : C_off_rings_3 = (.comp [3] (.v 3) .val (.cons (.v 1) .nil) (.cons (.not (.op .any (.cons C_off_rings_2 .nil))) .nil) (.elt (.v 3))) := rfl
@[simp] theorem uS_off_rings_4 : S_off_rings_4 = (.ret (.op .tupleOf (.cons C_off_rings_3 .nil))) := rfl
@[simp] theorem uB_off_rings_5 : B_off_rings_5 = (.cons S_off_rings_1 (.cons S_off_rings_4 .nil)) := rfl
@[simp] theorem ub_off_rings : b_off_rings = B_off_rings_5 := rfl
@[simp] theorem uS_order_of_1 : S_order_of_1 = (.asg (.v 3) (.call 0 (.cons (.v 0) (.cons (.v 1) (.cons (.op .tup (.cons (.v 2) .nil)) .nil))))) := rfl
@[simp] theorem uC_order_of_2 : C_order_of_2 = (.comp [6] (.v 6) .val (.cons (.v 3) .nil) .nil (.elt (.op .tup (.cons (.v 6) (.cons (.call 0 (.cons (.v 0) (.cons (.v 1) (.cons (.op .tup (.cons (.v 6) .nil)) .nil)))) .nil))))) := rfl
@[simp] theorem uS_order_of_3 : S_order_of_3 = (.asg (.v 4) (.op .dictOf (.cons C_order_of_2 .nil))) := rfl
@[simp] theorem uC_order_of_4 : C_order_of_4 = (.comp [6] (.v 6) .val (.cons (.v 3) .nil) .nil (.elt (.op .tup (.cons (.op .neg (.cons (.op .len (.cons (.op .ix (.cons (.v 4) (.cons (.v 6) .nil))) .nil)) .nil)) (.cons (.v 6) .nil))))) := rfl
@[simp] theorem uS_order_of_5 : S_order_of_5 = (.asg (.v 5) (.op .sorted (.cons C_order_of_4 .nil))) := rfl
@[simp] theorem uC_order_of_6 : C_order_of_6 = (.comp [7, 6] (.t [(.v 7), (.v 6)]) .val (.cons (.v 5) .nil) .nil (.elt (.v 6))) := rfl
@[simp] theorem uS_order_of_7 : S_order_of_7 = (.ret (.op .tupleOf (.cons C_order_of_6 .nil))) := rfl
@[simp] theorem uB_order_of_8 : B_order_of_8 = (.cons S_order_of_1 (.cons S_order_of_3 (.cons S_order_of_5 (.cons S_order_of_7 .nil)))) := rfl
@[simp] theorem ub_order_of : b_order_of = B_order_of_8 := rfl
@[simp] theorem uS_least_steps_1 : S_least_steps_1 = (.asg (.v 4) (.op .dic (.cons (.v 2) (.cons (.c (.int 0)) .nil)))) := rfl
@[simp] theorem uS_least_steps_2 : S_least_steps_2 = (.par [7, 8] (.cons (.op .ix (.cons (.op .ix (.cons (.v 0) (.cons (.v 6) .nil))) (.cons (.c (.int 0)) .nil))) (.cons (.op .ix (.cons (.op .ix (.cons (.v 0) (.cons (.v 6) .nil))) (.cons (.c (.int 1)) .nil))) .nil))) := rfl
@[simp] theorem uQ_least_steps_3 : Q_least_steps_3 = (.op .in_ (.cons (.v 7) (.cons (.v 4) .nil))) := rfl
@[simp] theorem uS_least_steps_4 : S_least_steps_4 = (.asg (.v 9) (.op .add (.cons (.op .ix (.cons (.v 4) (.cons (.v 7) .nil))) (.cons (.op .ix (.cons (.op .ix (.cons (.v 0) (.cons (.v 6) .nil))) (.cons (.c (.int 7)) .nil))) .nil)))) := rfl
@[simp] theorem uQ_least_steps_5 : Q_least_steps_5 = (.or (.op .nin (.cons (.v 8) (.cons (.v 4) .nil))) (.op .lt (.cons (.v 9) (.cons (.op .ix (.cons (.v 4) (.cons (.v 8) .nil))) .nil)))) := rfl
@[simp] theorem uS_least_steps_6 : S_least_steps_6 = (.setix 4 (.v 8) (.v 9)) := rfl
@[simp] theorem uB_least_steps_7 : B_least_steps_7 = (.cons S_least_steps_6 .nil) := rfl
@[simp] theorem uS_least_steps_8 : S_least_steps_8 = (.ife Q_least_steps_5 B_least_steps_7 .nil) := rfl
@[simp] theorem uB_least_steps_9 : B_least_steps_9 = (.cons S_least_steps_4 (.cons S_least_steps_8 .nil)) := rfl
@[simp] theorem uS_least_steps_10 : S_least_steps_10 = (.ife Q_least_steps_3 B_least_steps_9 .nil) := rfl
@[simp] theorem uB_least_steps_11 : B_least_steps_11 = (.cons S_least_steps_2 (.cons S_least_steps_10 .nil)) := rfl
@[simp] theorem uS_least_steps_12 : S_least_steps_12 = (.for (.v 6) .val (.cons (.v 1) .nil) B_least_steps_11 [6, 7, 8, 9]) := rfl
@[simp] theorem uB_least_steps_13 : B_least_steps_13 = (.cons S_least_steps_12 .nil) := rfl
@[simp] theorem uS_least_steps_14 : S_least_steps_14 = (.for (.v 5) .range (.cons (.op .add (.cons (.op .len (.cons (.call 2 (.cons (.v 0) (.cons (.v 1) .nil))) .nil)) (.cons (.c (.int 1)) .nil))) .nil) B_least_steps_13 [5, 6, 7, 8, 9]) := rfl
@[simp] theorem uS_least_steps_15 : S_least_steps_15 = (.ret (.op .get (.cons (.v 4) (.cons (.v 3) .nil)))) := rfl
@[simp] theorem uB_least_steps_16 : B_least_steps_16 = (.cons S_least_steps_1 (.cons S_least_steps_14 (.cons S_least_steps_15 .nil))) := rfl
@[simp] theorem ub_least_steps : b_least_steps = B_least_steps_16 := rfl
@[simp] theorem uC_entries_of_1 : C_entries_of_1 = (.comp [4] (.v 4) .val (.cons (.v 2) .nil) .nil (.elt (.op .ix (.cons (.op .ix (.cons (.v 0) (.cons (.v 4) .nil))) (.cons (.c (.int 0)) .nil))))) := rfl
@[simp] theorem uS_entries_of_2 : S_entries_of_2 = (.asg (.v 3) C_entries_of_1) := rfl
@[simp] theorem uC_entries_of_3 : C_entries_of_3 = (.comp [4] (.v 4) .val (.cons (.v 1) .nil) (.cons (.and (.op .nin (.cons (.v 4) (.cons (.v 2) .nil))) (.op .in_ (.cons (.op .ix (.cons (.op .ix (.cons (.v 0) (.cons (.v 4) .nil))) (.cons (.c (.int 1)) .nil))) (.cons (.v 3) .nil)))) .nil) (.elt (.v 4))) := rfl
@[simp] theorem uS_entries_of_4 : S_entries_of_4 = (.ret (.op .tupleOf (.cons C_entries_of_3 .nil))) := rfl
@[simp] theorem uB_entries_of_5 : B_entries_of_5 = (.cons S_entries_of_2 (.cons S_entries_of_4 .nil)) := rfl
@[simp] theorem ub_entries_of : b_entries_of = B_entries_of_5 := rfl
@[simp] theorem uS_is_on_ring_1 : S_is_on_ring_1 = (.ret (.op .in_ (.cons (.op .ix (.cons (.op .ix (.cons (.v 0) (.cons (.v 2) .nil))) (.cons (.c (.int 0)) .nil))) (.cons (.call 0 (.cons (.v 0) (.cons (.v 1) (.cons (.op .tup (.cons (.op .ix (.cons (.op .ix (.cons (.v 0) (.cons (.v 2) .nil))) (.cons (.c (.int 1)) .nil))) .nil)) .nil)))) .nil)))) := rfl
@[simp] theorem uB_is_on_ring_2 : B_is_on_ring_2 = (.cons S_is_on_ring_1 .nil) := rfl
@[simp] theorem ub_is_on_ring : b_is_on_ring = B_is_on_ring_2 := rfl
@[simp] theorem uS_ruled_by_1 : S_ruled_by_1 = (.asg (.v 4) (.call 0 (.cons (.v 0) (.cons (.v 1) (.cons (.op .tup (.cons (.v 2) .nil)) .nil))))) := rfl
@[simp] theorem uQ_ruled_by_2 : Q_ruled_by_2 = (.op .eq (.cons (.v 3) (.cons (.v 2) .nil))) := rfl
@[simp] theorem uS_ruled_by_3 : S_ruled_by_3 = (.ret (.v 4)) := rfl
@[simp] theorem uB_ruled_by_4 : B_ruled_by_4 = (.cons S_ruled_by_3 .nil) := rfl
@[simp] theorem uS_ruled_by_5 : S_ruled_by_5 = (.ife Q_ruled_by_2 B_ruled_by_4 .nil) := rfl
@[simp] theorem uC_ruled_by_6 : C_ruled_by_6 = (.comp [7] (.v 7) .val (.cons (.v 1) .nil) (.cons (.and (.op .ne (.cons (.op .ix (.cons (.op .ix (.cons (.v 0) (.cons (.v 7) .nil))) (.cons (.c (.int 0)) .nil))) (.cons (.v 3) .nil))) (.op .ne (.cons (.op .ix (.cons (.op .ix (.cons (.v 0) (.cons (.v 7) .nil))) (.cons (.c (.int 1)) .nil))) (.cons (.v 3) .nil)))) .nil) (.elt (.v 7))) := rfl
@[simp] theorem uS_ruled_by_7 : S_ruled_by_7 = (.asg (.v 5) C_ruled_by_6) := rfl
@[simp] theorem uS_ruled_by_8 : S_ruled_by_8 = (.asg (.v 6) (.call 0 (.cons (.v 0) (.cons (.v 5) (.cons (.op .tup (.cons (.v 2) .nil)) .nil))))) := rfl
@[simp] theorem uC_ruled_by_9 : C_ruled_by_9 = (.comp [8] (.v 8) .val (.cons (.v 4) .nil) (.cons (.op .nin (.cons (.v 8) (.cons (.v 6) .nil))) .nil) (.elt (.v 8))) := rfl
@[simp] theorem uS_ruled_by_10 : S_ruled_by_10 = (.ret (.op .tupleOf (.cons C_ruled_by_9 .nil))) := rfl
@[simp] theorem uB_ruled_by_11 : B_ruled_by_11 = (.cons S_ruled_by_1 (.cons S_ruled_by_5 (.cons S_ruled_by_7 (.cons S_ruled_by_8 (.cons S_ruled_by_10 .nil))))) := rfl
@[simp] theorem ub_ruled_by : b_ruled_by = B_ruled_by_11 := rfl
@[simp] theorem uS_law_draws_1 : S_law_draws_1 = (.asg (.v 2) (.op .lst .nil)) := rfl
@[simp] theorem uS_law_draws_2 : S_law_draws_2 = (.asg (.v 3) (.c (.int 7))) := rfl
@[simp] theorem uS_law_draws_3 : S_law_draws_3 = (.asg (.v 5) (.op .abs (.cons (.op .intOf (.cons (.op .ix (.cons (.v 0) (.cons (.v 4) .nil))) .nil)) .nil))) := rfl
@[simp] theorem uS_law_draws_4 : S_law_draws_4 = (.asg (.v 3) (.op .mod (.cons (.op .intOf (.cons (.op .add (.cons (.op .add (.cons (.op .mul (.cons (.v 3) (.cons (.c (.int 48271)) .nil))) (.cons (.op .mod (.cons (.v 5) (.cons (.c (.int 1000003)) .nil))) .nil))) (.cons (.v 4) .nil))) .nil)) (.cons (.c (.int 65537)) .nil)))) := rfl
@[simp] theorem uS_law_draws_5 : S_law_draws_5 = (.asg (.v 6) (.c (.int 0))) := rfl
@[simp] theorem uQ_law_draws_6 : Q_law_draws_6 = (.op .ge (.cons (.v 5) (.cons (.op .pow (.cons (.c (.int 10)) (.cons (.c (.int 18)) .nil))) .nil))) := rfl
@[simp] theorem uS_law_draws_7 : S_law_draws_7 = (.asg (.v 6) (.v 5)) := rfl
@[simp] theorem uB_law_draws_8 : B_law_draws_8 = (.cons S_law_draws_7 .nil) := rfl
@[simp] theorem uS_law_draws_9 : S_law_draws_9 = (.app 2 (.op .mod (.cons (.op .intOf (.cons (.v 5) .nil)) (.cons (.c (.int 997)) .nil)))) := rfl
@[simp] theorem uS_law_draws_10 : S_law_draws_10 = (.app 2 (.op .mod (.cons (.op .mod (.cons (.op .intOf (.cons (.op .add (.cons (.op .mul (.cons (.v 3) (.cons (.c (.int 69621)) .nil))) (.cons (.c (.int 5)) .nil))) .nil)) (.cons (.c (.int 65521)) .nil))) (.cons (.c (.int 997)) .nil)))) := rfl
@[simp] theorem uB_law_draws_11 : B_law_draws_11 = (.cons S_law_draws_9 (.cons S_law_draws_10 .nil)) := rfl
@[simp] theorem uS_law_draws_12 : S_law_draws_12 = (.ife Q_law_draws_6 B_law_draws_8 B_law_draws_11) := rfl
@[simp] theorem uQ_law_draws_13 : Q_law_draws_13 = (.op .gt (.cons (.v 6) (.cons (.c (.int 0)) .nil))) := rfl
@[simp] theorem uS_law_draws_14 : S_law_draws_14 = (.app 2 (.op .mod (.cons (.op .intOf (.cons (.v 6) .nil)) (.cons (.c (.int 997)) .nil)))) := rfl
@[simp] theorem uS_law_draws_15 : S_law_draws_15 = (.asg (.v 6) (.op .fdiv (.cons (.v 6) (.cons (.c (.int 997)) .nil)))) := rfl
@[simp] theorem uB_law_draws_16 : B_law_draws_16 = (.cons S_law_draws_14 (.cons S_law_draws_15 .nil)) := rfl
@[simp] theorem uS_law_draws_17 : S_law_draws_17 = (.ife Q_law_draws_13 B_law_draws_16 .nil) := rfl
@[simp] theorem uB_law_draws_18 : B_law_draws_18 = (.cons S_law_draws_17 .nil) := rfl
@[simp] theorem uS_law_draws_19 : S_law_draws_19 = (.for (.v 7) .range (.cons (.c (.int 60)) .nil) B_law_draws_18 [7]) := rfl
@[simp] theorem uB_law_draws_20 : B_law_draws_20 = (.cons S_law_draws_3 (.cons S_law_draws_4 (.cons S_law_draws_5 (.cons S_law_draws_12 (.cons S_law_draws_19 .nil))))) := rfl
@[simp] theorem uS_law_draws_21 : S_law_draws_21 = (.for (.v 4) .range (.cons (.op .len (.cons (.v 0) .nil)) .nil) B_law_draws_20 [4, 5, 6, 7]) := rfl
@[simp] theorem uS_law_draws_22 : S_law_draws_22 = (.asg (.v 3) (.op .mod (.cons (.op .intOf (.cons (.op .add (.cons (.op .add (.cons (.op .mul (.cons (.v 3) (.cons (.c (.int 16807)) .nil))) (.cons (.v 4) .nil))) (.cons (.c (.int 1)) .nil))) .nil)) (.cons (.c (.int 65537)) .nil)))) := rfl
@[simp] theorem uS_law_draws_23 : S_law_draws_23 = (.app 2 (.op .mod (.cons (.op .intOf (.cons (.v 3) .nil)) (.cons (.c (.int 997)) .nil)))) := rfl
@[simp] theorem uB_law_draws_24 : B_law_draws_24 = (.cons S_law_draws_22 (.cons S_law_draws_23 .nil)) := rfl
@[simp] theorem uS_law_draws_25 : S_law_draws_25 = (.for (.v 4) .range (.cons (.v 1) .nil) B_law_draws_24 [4]) := rfl
@[simp] theorem uS_law_draws_26 : S_law_draws_26 = (.ret (.op (.sl false true) (.cons (.v 2) (.cons (.v 1) .nil)))) := rfl
@[simp] theorem uB_law_draws_27 : B_law_draws_27 = (.cons S_law_draws_1 (.cons S_law_draws_2 (.cons S_law_draws_21 (.cons S_law_draws_25 (.cons S_law_draws_26 .nil))))) := rfl
@[simp] theorem ub_law_draws : b_law_draws = B_law_draws_27 := rfl
@[simp] theorem uS_law_next_1 : S_law_next_1 = (.augix 0 (.c (.str [97, 116])) .add (.c (.int 1))) := rfl
@[simp] theorem uQ_law_next_2 : Q_law_next_2 = (.op .gt (.cons (.op .ix (.cons (.v 0) (.cons (.c (.str [97, 116])) .nil))) (.cons (.op .len (.cons (.op .ix (.cons (.v 0) (.cons (.c (.str [100, 114, 97, 119, 115])) .nil))) .nil)) .nil))) := rfl
@[simp] theorem uS_law_next_3 : S_law_next_3 = (.ret (.c (.int 0))) := rfl
@[simp] theorem uB_law_next_4 : B_law_next_4 = (.cons S_law_next_3 .nil) := rfl
@[simp] theorem uS_law_next_5 : S_law_next_5 = (.ife Q_law_next_2 B_law_next_4 .nil) := rfl
@[simp] theorem uS_law_next_6 : S_law_next_6 = (.ret (.op .mod (.cons (.op .intOf (.cons (.op .ix (.cons (.op .ix (.cons (.v 0) (.cons (.c (.str [100, 114, 97, 119, 115])) .nil))) (.cons (.op .sub (.cons (.op .ix (.cons (.v 0) (.cons (.c (.str [97, 116])) .nil))) (.cons (.c (.int 1)) .nil))) .nil))) .nil)) (.cons (.v 1) .nil)))) := rfl
@[simp] theorem uB_law_next_7 : B_law_next_7 = (.cons S_law_next_1 (.cons S_law_next_5 (.cons S_law_next_6 .nil))) := rfl
@[simp] theorem ub_law_next : b_law_next = B_law_next_7 := rfl
@[simp] theorem uS_law_pick_1 : S_law_pick_1 = (.ret (.op .ix (.cons (.v 1) (.cons (.call 12 (.cons (.v 0) (.cons (.op .len (.cons (.v 1) .nil)) .nil))) .nil)))) := rfl
@[simp] theorem uB_law_pick_2 : B_law_pick_2 = (.cons S_law_pick_1 .nil) := rfl
@[simp] theorem ub_law_pick : b_law_pick = B_law_pick_2 := rfl
@[simp] theorem uS_law_same_1 : S_law_same_1 = (.asg (.v 2) (.op .lst (.cons (.op .tup (.cons (.v 0) (.cons (.v 1) .nil))) .nil))) := rfl
@[simp] theorem uS_law_same_2 : S_law_same_2 = (.asg (.t [(.v 3), (.v 4)]) (.pop 2)) := rfl
@[simp] theorem uQ_law_same_3 : Q_law_same_3 = (.op (.isi .dict) (.cons (.v 4) .nil)) := rfl
@[simp] theorem uC_law_same_4 : C_law_same_4 = (.comp [6] (.v 6) .val (.cons (.v 4) .nil) (.cons (.op .nin (.cons (.v 6) (.cons (.v 3) .nil))) .nil) (.elt (.v 6))) := rfl
@[simp] theorem uQ_law_same_5 : Q_law_same_5 = (.or (.not (.op (.isi .dict) (.cons (.v 3) .nil))) (.or (.op .ne (.cons (.op .len (.cons (.v 3) .nil)) (.cons (.op .len (.cons (.v 4) .nil)) .nil))) (.op .ne (.cons C_law_same_4 (.cons (.op .lst .nil) .nil))))) := rfl
@[simp] theorem uS_law_same_6 : S_law_same_6 = (.ret (.c (.bl false))) := rfl
@[simp] theorem uB_law_same_7 : B_law_same_7 = (.cons S_law_same_6 .nil) := rfl
@[simp] theorem uS_law_same_8 : S_law_same_8 = (.ife Q_law_same_5 B_law_same_7 .nil) := rfl
@[simp] theorem uC_law_same_9 : C_law_same_9 = (.comp [6] (.v 6) .val (.cons (.v 3) .nil) .nil (.elt (.op .tup (.cons (.v 6) (.cons (.v 6) .nil))))) := rfl
@[simp] theorem uS_law_same_10 : S_law_same_10 = (.asg (.v 5) (.op .dictOf (.cons C_law_same_9 .nil))) := rfl
@[simp] theorem uC_law_same_11 : C_law_same_11 = (.comp [6] (.v 6) .val (.cons (.v 4) .nil) .nil (.elt (.op .tup (.cons (.op .ix (.cons (.v 3) (.cons (.v 6) .nil))) (.cons (.op .ix (.cons (.v 4) (.cons (.v 6) .nil))) .nil))))) := rfl
@[simp] theorem uC_law_same_12 : C_law_same_12 = (.comp [6] (.v 6) .val (.cons (.v 4) .nil) .nil (.elt (.op .tup (.cons (.op .ix (.cons (.v 5) (.cons (.v 6) .nil))) (.cons (.v 6) .nil))))) := rfl
@[simp] theorem uS_law_same_13 : S_law_same_13 = (.ext 2 (.op .add (.cons C_law_same_11 (.cons C_law_same_12 .nil)))) := rfl
@[simp] theorem uB_law_same_14 : B_law_same_14 = (.cons S_law_same_8 (.cons S_law_same_10 (.cons S_law_same_13 .nil))) := rfl
@[simp] theorem uQ_law_same_15 : Q_law_same_15 = (.or (.op (.isi .tuple) (.cons (.v 4) .nil)) (.op (.isi .list) (.cons (.v 4) .nil))) := rfl
@[simp] theorem uQ_law_same_16 : Q_law_same_16 = (.or (.op .ne (.cons (.op (.isi .tuple) (.cons (.v 3) .nil)) (.cons (.op (.isi .tuple) (.cons (.v 4) .nil)) .nil))) (.or (.op .ne (.cons (.op (.isi .list) (.cons (.v 3) .nil)) (.cons (.op (.isi .list) (.cons (.v 4) .nil)) .nil))) (.op .ne (.cons (.op .len (.cons (.v 3) .nil)) (.cons (.op .len (.cons (.v 4) .nil)) .nil))))) := rfl
@[simp] theorem uS_law_same_17 : S_law_same_17 = (.ret (.c (.bl false))) := rfl
@[simp] theorem uB_law_same_18 : B_law_same_18 = (.cons S_law_same_17 .nil) := rfl
@[simp] theorem uS_law_same_19 : S_law_same_19 = (.ife Q_law_same_16 B_law_same_18 .nil) := rfl
@[simp] theorem uC_law_same_20 : C_law_same_20 = (.comp [7] (.v 7) .range (.cons (.op .len (.cons (.v 4) .nil)) .nil) .nil (.elt (.op .tup (.cons (.op .ix (.cons (.v 3) (.cons (.v 7) .nil))) (.cons (.op .ix (.cons (.v 4) (.cons (.v 7) .nil))) .nil))))) := rfl
@[simp] theorem uS_law_same_21 : S_law_same_21 = (.ext 2 C_law_same_20) := rfl
@[simp] theorem uB_law_same_22 : B_law_same_22 = (.cons S_law_same_19 (.cons S_law_same_21 .nil)) := rfl
@[simp] theorem uQ_law_same_23 : Q_law_same_23 = (.or (.op .ne (.cons (.op (.isi .bool) (.cons (.v 3) .nil)) (.cons (.op (.isi .bool) (.cons (.v 4) .nil)) .nil))) (.or (.op .ne (.cons (.op (.isi .int) (.cons (.v 3) .nil)) (.cons (.op (.isi .int) (.cons (.v 4) .nil)) .nil))) (.or (.op .ne (.cons (.op (.isi .str) (.cons (.v 3) .nil)) (.cons (.op (.isi .str) (.cons (.v 4) .nil)) .nil))) (.op .ne (.cons (.v 3) (.cons (.v 4) .nil)))))) := rfl
@[simp] theorem uS_law_same_24 : S_law_same_24 = (.ret (.c (.bl false))) := rfl
@[simp] theorem uB_law_same_25 : B_law_same_25 = (.cons S_law_same_24 .nil) := rfl
@[simp] theorem uS_law_same_26 : S_law_same_26 = (.ife Q_law_same_23 B_law_same_25 .nil) := rfl
@[simp] theorem uB_law_same_27 : B_law_same_27 = (.cons S_law_same_26 .nil) := rfl
@[simp] theorem uS_law_same_28 : S_law_same_28 = (.ife Q_law_same_15 B_law_same_22 B_law_same_27) := rfl
@[simp] theorem uB_law_same_29 : B_law_same_29 = (.cons S_law_same_28 .nil) := rfl
@[simp] theorem uS_law_same_30 : S_law_same_30 = (.ife Q_law_same_3 B_law_same_14 B_law_same_29) := rfl
@[simp] theorem uB_law_same_31 : B_law_same_31 = (.cons S_law_same_2 (.cons S_law_same_30 .nil)) := rfl
@[simp] theorem uS_law_same_32 : S_law_same_32 = (.whl (.op .ne (.cons (.v 2) (.cons (.op .lst .nil) .nil))) B_law_same_31 [3, 4, 5]) := rfl
@[simp] theorem uS_law_same_33 : S_law_same_33 = (.ret (.c (.bl true))) := rfl
@[simp] theorem uB_law_same_34 : B_law_same_34 = (.cons S_law_same_1 (.cons S_law_same_32 (.cons S_law_same_33 .nil))) := rfl
@[simp] theorem ub_law_same : b_law_same = B_law_same_34 := rfl
@[simp] theorem uS_law_behind_1 : S_law_behind_1 = (.asg (.v 2) (.op .listOf (.cons (.v 1) .nil))) := rfl
@[simp] theorem uC_law_behind_2 : C_law_behind_2 = (.comp [5, 4] (.t [(.v 5), (.v 4)]) .val (.cons (.v 0) .nil) (.cons (.and (.op .in_ (.cons (.v 5) (.cons (.v 2) .nil))) (.op .nin (.cons (.v 4) (.cons (.v 2) .nil)))) .nil) (.elt (.v 4))) := rfl
@[simp] theorem uS_law_behind_3 : S_law_behind_3 = (.asg (.v 2) (.op .add (.cons (.v 2) (.cons C_law_behind_2 .nil)))) := rfl
@[simp] theorem uB_law_behind_4 : B_law_behind_4 = (.cons S_law_behind_3 .nil) := rfl
@[simp] theorem uS_law_behind_5 : S_law_behind_5 = (.for (.v 3) .range (.cons (.op .add (.cons (.op .len (.cons (.v 0) .nil)) (.cons (.c (.int 1)) .nil))) .nil) B_law_behind_4 [3]) := rfl
@[simp] theorem uS_law_behind_6 : S_law_behind_6 = (.ret (.op .sset (.cons (.v 2) .nil))) := rfl
@[simp] theorem uB_law_behind_7 : B_law_behind_7 = (.cons S_law_behind_1 (.cons S_law_behind_5 (.cons S_law_behind_6 .nil))) := rfl
@[simp] theorem ub_law_behind : b_law_behind = B_law_behind_7 := rfl
@[simp] theorem uS_law_1 : S_law_1 = (.asg (.v 1) (.op .dic (.cons (.c (.str [100, 114, 97, 119, 115])) (.cons (.call 11 (.cons (.v 0) (.cons (.c (.int 90)) .nil))) (.cons (.c (.str [97, 116])) (.cons (.c (.int 0)) .nil)))))) := rfl
@[simp] theorem uS_law_2 : S_law_2 = (.par [3, 4] (.cons (.op .add (.cons (.c (.int 2)) (.cons (.call 12 (.cons (.v 1) (.cons (.c (.int 6)) .nil))) .nil))) (.cons (.op .lst .nil) .nil))) := rfl
@[simp] theorem uS_law_3 : S_law_3 = (.app 4 (.op .tup (.cons (.call 12 (.cons (.v 1) (.cons (.v 3) .nil))) (.cons (.call 12 (.cons (.v 1) (.cons (.v 3) .nil))) (.cons (.op .tup .nil) (.cons (.c .non) (.cons (.op .tup .nil) (.cons (.op .tup (.cons (.c (.int 0)) (.cons (.op .tup .nil) .nil))) (.cons (.c .non) (.cons (.call 12 (.cons (.v 1) (.cons (.c (.int 4)) .nil))) .nil)))))))))) := rfl
@[simp] theorem uB_law_4 : B_law_4 = (.cons S_law_3 .nil) := rfl
@[simp] theorem uS_law_5 : S_law_5 = (.for (.v 5) .range (.cons (.call 12 (.cons (.v 1) (.cons (.c (.int 11)) .nil))) .nil) B_law_4 [5]) := rfl
@[simp] theorem uS_law_6 : S_law_6 = (.asg (.v 4) (.op .tupleOf (.cons (.v 4) .nil))) := rfl
@[simp] theorem uC_law_7 : C_law_7 = (.comp [5] (.v 5) .range (.cons (.op .len (.cons (.v 4) .nil)) .nil) (.cons (.op .gt (.cons (.call 12 (.cons (.v 1) (.cons (.c (.int 5)) .nil))) (.cons (.c (.int 0)) .nil))) .nil) (.elt (.v 5))) := rfl
@[simp] theorem uS_law_8 : S_law_8 = (.asg (.v 6) (.op .tupleOf (.cons C_law_7 .nil))) := rfl
@[simp] theorem uC_law_9 : C_law_9 = (.comp [5] (.v 5) .val (.cons (.v 6) .nil) .nil (.elt (.op (.sl false true) (.cons (.op .ix (.cons (.v 4) (.cons (.v 5) .nil))) (.cons (.c (.int 2)) .nil))))) := rfl
@[simp] theorem uS_law_10 : S_law_10 = (.asg (.v 7) C_law_9) := rfl
@[simp] theorem uC_law_11 : C_law_11 = (.comp [25, 24] (.t [(.v 25), (.v 24)]) .val (.cons (.v 7) .nil) .nil (.elt (.op .tup (.cons (.v 24) (.cons (.v 25) .nil))))) := rfl
@[simp] theorem uS_law_12 : S_law_12 = (.asg (.v 8) C_law_11) := rfl
@[simp] theorem uC_law_13 : C_law_13 = (.comp [10] (.v 10) .range (.cons (.v 3) .nil) .nil (.elt (.op .tup (.cons (.v 10) (.cons (.call 15 (.cons (.v 7) (.cons (.op .lst (.cons (.v 10) .nil)) .nil))) .nil))))) := rfl
@[simp] theorem uS_law_14 : S_law_14 = (.asg (.v 9) (.op .dictOf (.cons C_law_13 .nil))) := rfl
@[simp] theorem uS_law_15 : S_law_15 = (.asg (.v 11) (.call 12 (.cons (.v 1) (.cons (.v 3) .nil)))) := rfl
@[simp] theorem uQ_law_16 : Q_law_16 = (.or (.not (.call 14 (.cons (.call 0 (.cons (.v 4) (.cons (.v 6) (.cons (.op .tup (.cons (.v 10) .nil)) .nil)))) (.cons (.op .tupleOf (.cons (.op .ix (.cons (.v 9) (.cons (.v 10) .nil))) .nil)) .nil)))) (.not (.call 14 (.cons (.call 1 (.cons (.v 4) (.cons (.v 6) (.cons (.op .tup (.cons (.v 10) .nil)) .nil)))) (.cons (.op .tupleOf (.cons (.call 15 (.cons (.v 8) (.cons (.op .lst (.cons (.v 10) .nil)) .nil))) .nil)) .nil))))) := rfl
@[simp] theorem uS_law_17 : S_law_17 = (.ret (.c (.bl false))) := rfl
@[simp] theorem uB_law_18 : B_law_18 = (.cons S_law_17 .nil) := rfl
@[simp] theorem uS_law_19 : S_law_19 = (.ife Q_law_16 B_law_18 .nil) := rfl
@[simp] theorem uQ_law_20 : Q_law_20 = (.not (.call 14 (.cons (.call 0 (.cons (.v 4) (.cons (.v 6) (.cons (.op .tup (.cons (.v 10) (.cons (.v 11) .nil))) .nil)))) (.cons (.op .tupleOf (.cons (.op .sset (.cons (.op .add (.cons (.op .ix (.cons (.v 9) (.cons (.v 10) .nil))) (.cons (.op .ix (.cons (.v 9) (.cons (.v 11) .nil))) .nil))) .nil)) .nil)) .nil)))) := rfl
@[simp] theorem uS_law_21 : S_law_21 = (.ret (.c (.bl false))) := rfl
@[simp] theorem uB_law_22 : B_law_22 = (.cons S_law_21 .nil) := rfl
@[simp] theorem uS_law_23 : S_law_23 = (.ife Q_law_20 B_law_22 .nil) := rfl
@[simp] theorem uB_law_24 : B_law_24 = (.cons S_law_15 (.cons S_law_19 (.cons S_law_23 .nil))) := rfl
@[simp] theorem uS_law_25 : S_law_25 = (.for (.v 10) .range (.cons (.v 3) .nil) B_law_24 [10, 11]) := rfl
@[simp] theorem uC_law_26 : C_law_26 = (.comp [5] (.v 5) .val (.cons (.v 6) .nil) (.cons (.op .in_ (.cons (.op .ix (.cons (.op .ix (.cons (.v 4) (.cons (.v 5) .nil))) (.cons (.c (.int 0)) .nil))) (.cons (.op .ix (.cons (.v 9) (.cons (.op .ix (.cons (.op .ix (.cons (.v 4) (.cons (.v 5) .nil))) (.cons (.c (.int 1)) .nil))) .nil))) .nil))) .nil) (.elt (.v 5))) := rfl
@[simp] theorem uS_law_27 : S_law_27 = (.asg (.v 12) C_law_26) := rfl
@[simp] theorem uS_law_28 : S_law_28 = (.asg (.v 13) (.op .lst .nil)) := rfl
@[simp] theorem uC_law_29 : C_law_29 = (.comp [26] (.v 26) .val (.cons (.v 12) .nil) (.cons (.and (.op .in_ (.cons (.op .ix (.cons (.op .ix (.cons (.v 4) (.cons (.v 26) .nil))) (.cons (.c (.int 0)) .nil))) (.cons (.op .ix (.cons (.v 9) (.cons (.op .ix (.cons (.op .ix (.cons (.v 4) (.cons (.v 5) .nil))) (.cons (.c (.int 0)) .nil))) .nil))) .nil))) (.op .in_ (.cons (.op .ix (.cons (.op .ix (.cons (.v 4) (.cons (.v 5) .nil))) (.cons (.c (.int 0)) .nil))) (.cons (.op .ix (.cons (.v 9) (.cons (.op .ix (.cons (.op .ix (.cons (.v 4) (.cons (.v 26) .nil))) (.cons (.c (.int 0)) .nil))) .nil))) .nil)))) .nil) (.elt (.v 26))) := rfl
@[simp] theorem uS_law_30 : S_law_30 = (.asg (.v 14) (.op .tupleOf (.cons C_law_29 .nil))) := rfl
@[simp] theorem uS_law_31 : S_law_31 = (.asg (.v 13) (.op .add (.cons (.v 13) (.cons (.op .mulL (.cons (.op .lst (.cons (.v 14) .nil)) (.cons (.op .intOf (.cons (.op .nin (.cons (.v 14) (.cons (.v 13) .nil))) .nil)) .nil))) .nil)))) := rfl
@[simp] theorem uB_law_32 : B_law_32 = (.cons S_law_30 (.cons S_law_31 .nil)) := rfl
@[simp] theorem uS_law_33 : S_law_33 = (.for (.v 5) .val (.cons (.v 12) .nil) B_law_32 [5, 14]) := rfl
@[simp] theorem uC_law_34 : C_law_34 = (.comp [5] (.v 5) .val (.cons (.v 6) .nil) (.cons (.op .nin (.cons (.v 5) (.cons (.v 12) .nil))) .nil) (.elt (.v 5))) := rfl
@[simp] theorem uQ_law_35 : Q_law_35 = (.or (.not (.call 14 (.cons (.call 3 (.cons (.v 4) (.cons (.v 6) .nil))) (.cons (.op .tupleOf (.cons (.op .sorted (.cons (.v 13) .nil)) .nil)) .nil)))) (.not (.call 14 (.cons (.call 5 (.cons (.v 4) (.cons (.v 6) .nil))) (.cons (.op .tupleOf (.cons C_law_34 .nil)) .nil))))) := rfl
@[simp] theorem uS_law_36 : S_law_36 = (.ret (.c (.bl false))) := rfl
@[simp] theorem uB_law_37 : B_law_37 = (.cons S_law_36 .nil) := rfl
@[simp] theorem uS_law_38 : S_law_38 = (.ife Q_law_35 B_law_37 .nil) := rfl
@[simp] theorem uC_law_39 : C_law_39 = (.comp [5] (.v 5) .val (.cons (.v 6) .nil) (.cons (.not (.call 14 (.cons (.call 9 (.cons (.v 4) (.cons (.v 6) (.cons (.v 5) .nil)))) (.cons (.op .in_ (.cons (.v 5) (.cons (.v 12) .nil))) .nil)))) .nil) (.elt (.v 5))) := rfl
@[simp] theorem uQ_law_40 : Q_law_40 = (.op .ne (.cons C_law_39 (.cons (.op .lst .nil) .nil))) := rfl
@[simp] theorem uS_law_41 : S_law_41 = (.ret (.c (.bl false))) := rfl
@[simp] theorem uB_law_42 : B_law_42 = (.cons S_law_41 .nil) := rfl
@[simp] theorem uS_law_43 : S_law_43 = (.ife Q_law_40 B_law_42 .nil) := rfl
@[simp] theorem uS_law_44 : S_law_44 = (.asg (.v 15) (.op .tupRange (.cons (.op .len (.cons (.v 4) .nil)) .nil))) := rfl
@[simp] theorem uC_law_45 : C_law_45 = (.comp [5] (.v 5) .val (.cons (.v 16) .nil) .nil (.elt (.op .ix (.cons (.op .ix (.cons (.v 4) (.cons (.v 5) .nil))) (.cons (.c (.int 0)) .nil))))) := rfl
@[simp] theorem uS_law_46 : S_law_46 = (.asg (.v 17) C_law_45) := rfl
@[simp] theorem uC_law_47 : C_law_47 = (.comp [5] (.v 5) .val (.cons (.v 15) .nil) (.cons (.and (.op .nin (.cons (.v 5) (.cons (.v 16) .nil))) (.op .in_ (.cons (.op .ix (.cons (.op .ix (.cons (.v 4) (.cons (.v 5) .nil))) (.cons (.c (.int 1)) .nil))) (.cons (.v 17) .nil)))) .nil) (.elt (.v 5))) := rfl
@[simp] theorem uQ_law_48 : Q_law_48 = (.not (.call 14 (.cons (.call 8 (.cons (.v 4) (.cons (.v 15) (.cons (.v 16) .nil)))) (.cons (.op .tupleOf (.cons C_law_47 .nil)) .nil)))) := rfl
@[simp] theorem uS_law_49 : S_law_49 = (.ret (.c (.bl false))) := rfl
@[simp] theorem uB_law_50 : B_law_50 = (.cons S_law_49 .nil) := rfl
@[simp] theorem uS_law_51 : S_law_51 = (.ife Q_law_48 B_law_50 .nil) := rfl
@[simp] theorem uB_law_52 : B_law_52 = (.cons S_law_46 (.cons S_law_51 .nil)) := rfl
@[simp] theorem uS_law_53 : S_law_53 = (.for (.v 16) .val (.cons (.v 13) .nil) B_law_52 [16, 17]) := rfl
@[simp] theorem uS_law_54 : S_law_54 = (.asg (.v 18) (.call 12 (.cons (.v 1) (.cons (.v 3) .nil)))) := rfl
@[simp] theorem uS_law_55 : S_law_55 = (.asg (.v 19) (.call 6 (.cons (.v 4) (.cons (.v 6) (.cons (.v 18) .nil))))) := rfl
@[simp] theorem uC_law_56 : C_law_56 = (.comp [5] (.v 5) .range2 (.cons (.c (.int 1)) (.cons (.op .len (.cons (.v 19) .nil)) .nil)) (.cons (.op .gtT (.cons (.op .tup (.cons (.op .sub (.cons (.c (.int 0)) (.cons (.op .len (.cons (.op .ix (.cons (.v 9) (.cons (.op .ix (.cons (.v 19) (.cons (.op .sub (.cons (.v 5) (.cons (.c (.int 1)) .nil))) .nil))) .nil))) .nil)) .nil))) (.cons (.op .ix (.cons (.v 19) (.cons (.op .sub (.cons (.v 5) (.cons (.c (.int 1)) .nil))) .nil))) .nil))) (.cons (.op .tup (.cons (.op .sub (.cons (.c (.int 0)) (.cons (.op .len (.cons (.op .ix (.cons (.v 9) (.cons (.op .ix (.cons (.v 19) (.cons (.v 5) .nil))) .nil))) .nil)) .nil))) (.cons (.op .ix (.cons (.v 19) (.cons (.v 5) .nil))) .nil))) .nil))) .nil) (.elt (.v 5))) := rfl
@[simp] theorem uQ_law_57 : Q_law_57 = (.or (.op .ne (.cons (.op .sorted (.cons (.v 19) .nil)) (.cons (.op .ix (.cons (.v 9) (.cons (.v 18) .nil))) .nil))) (.op .ne (.cons C_law_56 (.cons (.op .lst .nil) .nil)))) := rfl
@[simp] theorem uS_law_58 : S_law_58 = (.ret (.c (.bl false))) := rfl
@[simp] theorem uB_law_59 : B_law_59 = (.cons S_law_58 .nil) := rfl
@[simp] theorem uS_law_60 : S_law_60 = (.ife Q_law_57 B_law_59 .nil) := rfl
@[simp] theorem uC_law_61 : C_law_61 = (.comp [5] (.v 5) .val (.cons (.v 6) .nil) (.cons (.and (.op .nin (.cons (.v 5) (.cons (.v 12) .nil))) (.and (.op .in_ (.cons (.op .ix (.cons (.op .ix (.cons (.v 4) (.cons (.v 5) .nil))) (.cons (.c (.int 0)) .nil))) (.cons (.v 19) .nil))) (.op .ge (.cons (.op .index (.cons (.v 19) (.cons (.op .ix (.cons (.op .ix (.cons (.v 4) (.cons (.v 5) .nil))) (.cons (.c (.int 0)) .nil))) .nil))) (.cons (.op .index (.cons (.v 19) (.cons (.op .ix (.cons (.op .ix (.cons (.v 4) (.cons (.v 5) .nil))) (.cons (.c (.int 1)) .nil))) .nil))) .nil))))) .nil) (.elt (.v 5))) := rfl
@[simp] theorem uQ_law_62 : Q_law_62 = (.op .ne (.cons C_law_61 (.cons (.op .lst .nil) .nil))) := rfl
@[simp] theorem uS_law_63 : S_law_63 = (.ret (.c (.bl false))) := rfl
@[simp] theorem uB_law_64 : B_law_64 = (.cons S_law_63 .nil) := rfl
@[simp] theorem uS_law_65 : S_law_65 = (.ife Q_law_62 B_law_64 .nil) := rfl
@[simp] theorem uS_law_66 : S_law_66 = (.asg (.v 20) (.op .dic (.cons (.v 18) (.cons (.c (.int 0)) .nil)))) := rfl
@[simp] theorem uQ_law_67 : Q_law_67 = (.op .in_ (.cons (.op .ix (.cons (.op .ix (.cons (.v 4) (.cons (.v 5) .nil))) (.cons (.c (.int 0)) .nil))) (.cons (.v 20) .nil))) := rfl
@[simp] theorem uS_law_68 : S_law_68 = (.asg (.v 14) (.op .add (.cons (.op .ix (.cons (.v 20) (.cons (.op .ix (.cons (.op .ix (.cons (.v 4) (.cons (.v 5) .nil))) (.cons (.c (.int 0)) .nil))) .nil))) (.cons (.op .ix (.cons (.op .ix (.cons (.v 4) (.cons (.v 5) .nil))) (.cons (.c (.int 7)) .nil))) .nil)))) := rfl
@[simp] theorem uS_law_69 : S_law_69 = (.setix 20 (.op .ix (.cons (.op .ix (.cons (.v 4) (.cons (.v 5) .nil))) (.cons (.c (.int 1)) .nil))) (.op .min (.cons (.v 14) (.cons (.op .get2 (.cons (.v 20) (.cons (.op .ix (.cons (.op .ix (.cons (.v 4) (.cons (.v 5) .nil))) (.cons (.c (.int 1)) .nil))) (.cons (.v 14) .nil)))) .nil)))) := rfl
@[simp] theorem uB_law_70 : B_law_70 = (.cons S_law_68 (.cons S_law_69 .nil)) := rfl
@[simp] theorem uS_law_71 : S_law_71 = (.ife Q_law_67 B_law_70 .nil) := rfl
@[simp] theorem uB_law_72 : B_law_72 = (.cons S_law_71 .nil) := rfl
@[simp] theorem uS_law_73 : S_law_73 = (.for (.v 5) .val (.cons (.v 6) .nil) B_law_72 [5, 14]) := rfl
@[simp] theorem uB_law_74 : B_law_74 = (.cons S_law_73 .nil) := rfl
@[simp] theorem uS_law_75 : S_law_75 = (.for (.v 21) .range (.cons (.op .add (.cons (.v 3) (.cons (.c (.int 1)) .nil))) .nil) B_law_74 [5, 14, 21]) := rfl
@[simp] theorem uQ_law_76 : Q_law_76 = (.not (.call 14 (.cons (.call 7 (.cons (.v 4) (.cons (.v 6) (.cons (.v 18) (.cons (.v 22) .nil))))) (.cons (.op .get (.cons (.v 20) (.cons (.v 22) .nil))) .nil)))) := rfl
@[simp] theorem uS_law_77 : S_law_77 = (.ret (.c (.bl false))) := rfl
@[simp] theorem uB_law_78 : B_law_78 = (.cons S_law_77 .nil) := rfl
@[simp] theorem uS_law_79 : S_law_79 = (.ife Q_law_76 B_law_78 .nil) := rfl
@[simp] theorem uC_law_80 : C_law_80 = (.comp [27] (.v 27) .val (.cons (.v 7) .nil) (.cons (.op .nin (.cons (.v 22) (.cons (.v 27) .nil))) .nil) (.elt (.v 27))) := rfl
@[simp] theorem uS_law_81 : S_law_81 = (.asg (.v 23) (.ife (.op .ne (.cons (.v 22) (.cons (.v 18) .nil))) (.call 15 (.cons C_law_80 (.cons (.op .lst (.cons (.v 18) .nil)) .nil))) (.op .lst .nil))) := rfl
@[simp] theorem uC_law_82 : C_law_82 = (.comp [14] (.v 14) .val (.cons (.op .ix (.cons (.v 9) (.cons (.v 18) .nil))) .nil) (.cons (.op .nin (.cons (.v 14) (.cons (.v 23) .nil))) .nil) (.elt (.v 14))) := rfl
@[simp] theorem uQ_law_83 : Q_law_83 = (.not (.call 14 (.cons (.call 10 (.cons (.v 4) (.cons (.v 6) (.cons (.v 18) (.cons (.v 22) .nil))))) (.cons (.op .tupleOf (.cons C_law_82 .nil)) .nil)))) := rfl
@[simp] theorem uS_law_84 : S_law_84 = (.ret (.c (.bl false))) := rfl
@[simp] theorem uB_law_85 : B_law_85 = (.cons S_law_84 .nil) := rfl
@[simp] theorem uS_law_86 : S_law_86 = (.ife Q_law_83 B_law_85 .nil) := rfl
@[simp] theorem uB_law_87 : B_law_87 = (.cons S_law_79 (.cons S_law_81 (.cons S_law_86 .nil))) := rfl
@[simp] theorem uS_law_88 : S_law_88 = (.for (.v 22) .range (.cons (.v 3) .nil) B_law_87 [22, 23]) := rfl
@[simp] theorem uB_law_89 : B_law_89 = (.cons S_law_2 (.cons S_law_5 (.cons S_law_6 (.cons S_law_8 (.cons S_law_10 (.cons S_law_12 (.cons S_law_14 (.cons S_law_25 (.cons S_law_27 (.cons S_law_28 (.cons S_law_33 (.cons S_law_38 (.cons S_law_43 (.cons S_law_44 (.cons S_law_53 (.cons S_law_54 (.cons S_law_55 (.cons S_law_60 (.cons S_law_65 (.cons S_law_66 (.cons S_law_75 (.cons S_law_88 .nil)))))))))))))))))))))) := rfl
@[simp] theorem uS_law_90 : S_law_90 = (.for (.v 2) .range (.cons (.c (.int 3)) .nil) B_law_89 [2, 3, 4, 5, 6, 7, 8, 9, 10, 11, 12, 13, 14, 15, 16, 17, 18, 19, 20, 21, 22, 23]) := rfl
@[simp] theorem uS_law_91 : S_law_91 = (.ret (.c (.bl true))) := rfl
@[simp] theorem uB_law_92 : B_law_92 = (.cons S_law_1 (.cons S_law_90 (.cons S_law_91 .nil))) := rfl
@[simp] theorem ub_law : b_law = B_law_92 := rfl
@[simp] theorem Ko_io0 (k : Nat) : (Ko k).io 0 = [false, false, false] := rfl
theorem d0 (k : Nat) (rs : List R) (h : ioFits [false, false, false] rs = true) : cf (k + 1) 0 rs = resF [false, false, false] (evSs (Ko k) b_goals_of (rs.map some ++ List.replicate (7 - 3) none)) := callF_def k 0 rs rfl h
@[simp] theorem Ko_io1 (k : Nat) : (Ko k).io 1 = [false, false, false] := rfl
theorem d1 (k : Nat) (rs : List R) (h : ioFits [false, false, false] rs = true) : cf (k + 1) 1 rs = resF [false, false, false] (evSs (Ko k) b_sources_of (rs.map some ++ List.replicate (7 - 3) none)) := callF_def k 1 rs rfl h
@[simp] theorem Ko_io2 (k : Nat) : (Ko k).io 2 = [false, false] := rfl
theorem d2 (k : Nat) (rs : List R) (h : ioFits [false, false] rs = true) : cf (k + 1) 2 rs = resF [false, false] (evSs (Ko k) b_places_of (rs.map some ++ List.replicate (3 - 2) none)) := callF_def k 2 rs rfl h
@[simp] theorem Ko_io3 (k : Nat) : (Ko k).io 3 = [false, false] := rfl
theorem d3 (k : Nat) (rs : List R) (h : ioFits [false, false] rs = true) : cf (k + 1) 3 rs = resF [false, false] (evSs (Ko k) b_rings_of (rs.map some ++ List.replicate (11 - 2) none)) := callF_def k 3 rs rfl h
@[simp] theorem Ko_io4 (k : Nat) : (Ko k).io 4 = [false, false, false] := rfl
theorem d4 (k : Nat) (rs : List R) (h : ioFits [false, false, false] rs = true) : cf (k + 1) 4 rs = resF [false, false, false] (evSs (Ko k) b_is_beside (rs.map some ++ List.replicate (5 - 3) none)) := callF_def k 4 rs rfl h
@[simp] theorem Ko_io5 (k : Nat) : (Ko k).io 5 = [false, false] := rfl
theorem d5 (k : Nat) (rs : List R) (h : ioFits [false, false] rs = true) : cf (k + 1) 5 rs = resF [false, false] (evSs (Ko k) b_off_rings (rs.map some ++ List.replicate (5 - 2) none)) := callF_def k 5 rs rfl h
@[simp] theorem Ko_io6 (k : Nat) : (Ko k).io 6 = [false, false, false] := rfl
theorem d6 (k : Nat) (rs : List R) (h : ioFits [false, false, false] rs = true) : cf (k + 1) 6 rs = resF [false, false, false] (evSs (Ko k) b_order_of (rs.map some ++ List.replicate (8 - 3) none)) := callF_def k 6 rs rfl h
@[simp] theorem Ko_io7 (k : Nat) : (Ko k).io 7 = [false, false, false, false] := rfl
theorem d7 (k : Nat) (rs : List R) (h : ioFits [false, false, false, false] rs = true) : cf (k + 1) 7 rs = resF [false, false, false, false] (evSs (Ko k) b_least_steps (rs.map some ++ List.replicate (10 - 4) none)) := callF_def k 7 rs rfl h
@[simp] theorem Ko_io8 (k : Nat) : (Ko k).io 8 = [false, false, false] := rfl
theorem d8 (k : Nat) (rs : List R) (h : ioFits [false, false, false] rs = true) : cf (k + 1) 8 rs = resF [false, false, false] (evSs (Ko k) b_entries_of (rs.map some ++ List.replicate (5 - 3) none)) := callF_def k 8 rs rfl h
@[simp] theorem Ko_io9 (k : Nat) : (Ko k).io 9 = [false, false, false] := rfl
theorem d9 (k : Nat) (rs : List R) (h : ioFits [false, false, false] rs = true) : cf (k + 1) 9 rs = resF [false, false, false] (evSs (Ko k) b_is_on_ring (rs.map some ++ List.replicate (3 - 3) none)) := callF_def k 9 rs rfl h
@[simp] theorem Ko_io10 (k : Nat) : (Ko k).io 10 = [false, false, false, false] := rfl
theorem d10 (k : Nat) (rs : List R) (h : ioFits [false, false, false, false] rs = true) : cf (k + 1) 10 rs = resF [false, false, false, false] (evSs (Ko k) b_ruled_by (rs.map some ++ List.replicate (9 - 4) none)) := callF_def k 10 rs rfl h
@[simp] theorem Ko_io11 (k : Nat) : (Ko k).io 11 = [false, false] := rfl
theorem d11 (k : Nat) (rs : List R) (h : ioFits [false, false] rs = true) : cf (k + 1) 11 rs = resF [false, false] (evSs (Ko k) b_law_draws (rs.map some ++ List.replicate (8 - 2) none)) := callF_def k 11 rs rfl h
@[simp] theorem Ko_io12 (k : Nat) : (Ko k).io 12 = [true, false] := rfl
theorem d12 (k : Nat) (rs : List R) (h : ioFits [true, false] rs = true) : cf (k + 1) 12 rs = resF [true, false] (evSs (Ko k) b_law_next (rs.map some ++ List.replicate (2 - 2) none)) := callF_def k 12 rs rfl h
@[simp] theorem Ko_io13 (k : Nat) : (Ko k).io 13 = [true, false] := rfl
theorem d13 (k : Nat) (rs : List R) (h : ioFits [true, false] rs = true) : cf (k + 1) 13 rs = resF [true, false] (evSs (Ko k) b_law_pick (rs.map some ++ List.replicate (2 - 2) none)) := callF_def k 13 rs rfl h
@[simp] theorem Ko_io14 (k : Nat) : (Ko k).io 14 = [false, false] := rfl
theorem d14 (k : Nat) (rs : List R) (h : ioFits [false, false] rs = true) : cf (k + 1) 14 rs = resF [false, false] (evSs (Ko k) b_law_same (rs.map some ++ List.replicate (8 - 2) none)) := callF_def k 14 rs rfl h
@[simp] theorem Ko_io15 (k : Nat) : (Ko k).io 15 = [false, false] := rfl
theorem d15 (k : Nat) (rs : List R) (h : ioFits [false, false] rs = true) : cf (k + 1) 15 rs = resF [false, false] (evSs (Ko k) b_law_behind (rs.map some ++ List.replicate (6 - 2) none)) := callF_def k 15 rs rfl h
@[simp] theorem Ko_io16 (k : Nat) : (Ko k).io 16 = [false] := rfl
theorem d16 (k : Nat) (rs : List R) (h : ioFits [false] rs = true) : cf (k + 1) 16 rs = resF [false] (evSs (Ko k) b_law (rs.map some ++ List.replicate (28 - 1) none)) := callF_def k 16 rs rfl h
end Tk06
end
section
/-! K06: what lies behind places. -/
namespace Tk06
open Pv Pu
local macro_rules
  | `(tactic| simp! $[$l:location]?) => `(tactic| simp (maxDischargeDepth := 12) [-Option.bind_some, ob_some, Pv.get, Op.keeps, fetchs, fetch, opD, o_tup, o_lst, o_add, o_sub, o_mul, o_fdiv, o_mod, o_pow, o_neg, o_eq, o_ne, o_lt, o_gt, o_le, o_ge, o_in_, o_nin, o_isN, o_isnN, o_sl, o_len, o_abs, o_max, o_min, o_tupleOf, o_listOf, o_intOf, o_isi, o_get, o_get2, bounds, slD, dlook, flatD, keyOk, backs, ioFits, assigns, forget, T.slots, T.slotss, noOwn, frzSlot, sets, argsOf, iosOf, noDup, putBacks, setAt, putIx, subL, slotsG, isElt] $[$l]?)
  | `(tactic| simp! [$as,*] $[$l:location]?) => `(tactic| simp (maxDischargeDepth := 12) [-Option.bind_some, ob_some, Pv.get, Op.keeps, fetchs, fetch, opD, o_tup, o_lst, o_add, o_sub, o_mul, o_fdiv, o_mod, o_pow, o_neg, o_eq, o_ne, o_lt, o_gt, o_le, o_ge, o_in_, o_nin, o_isN, o_isnN, o_sl, o_len, o_abs, o_max, o_min, o_tupleOf, o_listOf, o_intOf, o_isi, o_get, o_get2, bounds, slD, dlook, flatD, keyOk, backs, ioFits, assigns, forget, T.slots, T.slotss, noOwn, frzSlot, sets, argsOf, iosOf, noDup, putBacks, setAt, putIx, subL, slotsG, isElt, $as,*] $[$l]?)

/-- edges: from, to, steps -/
structure Ed where
  s : Nat
  t : Nat
  c : Nat
def nI (i : Nat) : D := .int (i : Int)
def eD (e : Ed) : D := .tup [nI e.s, nI e.t, .tup [], .non, .tup [], .tup [.int 0, .tup []], .non, nI e.c]
@[simp] theorem eD_0 (e : Ed) : o_ix [eD e, .int 0] = some (.v (.int e.s)) := ix_t0 _ _
@[simp] theorem eD_1 (e : Ed) : o_ix [eD e, .int 1] = some (.v (.int e.t)) := ix_t1 _ _ _
@[simp] theorem eD_7 (e : Ed) : o_ix [eD e, .int 7] = some (.v (.int e.c)) := rfl
@[simp] theorem eD_kind (e : Ed) : kind (eD e) = 4 := rfl
@[simp] theorem nI_kind (i : Nat) : kind (nI i) = 2 := rfl
def fI {es : List Ed} (k : Fin es.length) : D := .int ((k.1 : Nat) : Int)
def ed (es : List Ed) (k : Fin es.length) : Ed := es[(k : Nat)]'k.2
@[simp high] theorem fin_at {es : List Ed} (k : Fin es.length) : es[(k : Nat)]? = some (ed es k) := List.getElem?_eq_getElem k.2
@[simp] theorem eqs_ii (a b : Int) : eqs (.int a) (.int b) = decide (a = b) := by
  rw [eqs]
  by_cases h : a = b <;> simp [h]
@[simp] theorem nd_i (a : Int) : noDic (.int a) = true := rfl
@[simp] theorem dp_i (a : Int) : dep (.int a) ≤ 60 := Nat.zero_le _
@[simp] theorem cast_eq (a b : Nat) : ((a : Int) = (b : Int)) = (a = b) := propext ⟨fun h => by omega, fun h => by rw [h]⟩
@[simp] theorem nd_nI (l : List Nat) : noDic (.lst (l.map nI)) = true := noDics_map nI l fun _ => rfl
@[simp] theorem dp_nI (l : List Nat) : dep (.lst (l.map nI)) ≤ 60 := by
  have := deps_map nI 0 l fun f => Nat.le_refl _
  simp only [dep]
  omega
@[simp] theorem nds_nI (l : List Nat) : noDics (l.map nI) = true := noDics_map nI l fun _ => rfl
@[simp] theorem dps_nI (l : List Nat) : deps (l.map nI) ≤ 60 := Nat.le_trans (deps_map nI 0 l fun f => Nat.le_refl _) (by decide)
@[simp] theorem nd_l0 : noDic (.lst []) = true := rfl
@[simp] theorem dp_l0 : dep (.lst []) ≤ 60 := by decide
@[simp] theorem eqs_l0 (l : List D) : eqs (.lst l) (.lst []) = l.isEmpty := by cases l <;> rfl
@[simp high] theorem any_nI (l : List Nat) (i : Nat) : ((l.map nI).any fun x => eqs x (.int (i : Int))) = decide (i ∈ l) := by
  rw [any_map']
  simp only [nI, eqs_ii, cast_eq]
  by_cases h : i ∈ l
  · rw [decide_eq_true h]
    exact List.any_eq_true.mpr ⟨i, h, by simp⟩
  · rw [decide_eq_false h]
    refine List.any_eq_false.mpr fun x hx => ?_
    simp
    intro z
    exact h (by rw [← z]; exact hx)

/-! ### what is reached -/
inductive Reach (ps : List (Nat × Nat)) (A : List Nat) : Nat → Prop
  | base {a : Nat} : a ∈ A → Reach ps A a
  | step {a b : Nat} : Reach ps A a → (a, b) ∈ ps → Reach ps A b
def nxs (ps : List (Nat × Nat)) (a : Nat) : List Nat := (ps.filter fun p => decide (p.1 = a)).map (·.2)
theorem mem_nxs {ps : List (Nat × Nat)} {a b : Nat} : b ∈ nxs ps a ↔ (a, b) ∈ ps := by
  unfold nxs
  constructor
  · intro h
    obtain ⟨p, hp, rfl⟩ := List.mem_map.mp h
    have := List.mem_filter.mp hp
    have e : p.1 = a := by simpa using this.2
    rw [← e]
    exact this.1
  · intro h
    exact List.mem_map.mpr ⟨(a, b), List.mem_filter.mpr ⟨h, by simp⟩, rfl⟩
theorem nxs_len (ps : List (Nat × Nat)) (a : Nat) : (nxs ps a).length ≤ ps.length := by
  unfold nxs
  rw [List.length_map]
  exact List.length_filter_le _ _
/-- the search: what is found, what waits (its end first) -/
def fD (l : List Nat) : List (D × D) := kvG nI D.bl (l.map fun n => (n, true))
structure Inv (ps : List (Nat × Nat)) (A : List Nat) (N : Nat) (fo wa : List Nat) : Prop where
  nd : fo.Nodup
  lo : ∀ x ∈ fo, x < N
  lw : ∀ x ∈ wa, x < N
  rf : ∀ x ∈ fo, Reach ps A x
  rw' : ∀ x ∈ wa, Reach ps A x
  pl : ∀ x ∈ A, x ∈ fo ∨ x ∈ wa
  cl : ∀ a b, a ∈ fo → (a, b) ∈ ps → b ∈ fo ∨ b ∈ wa
theorem Inv.skip {ps : List (Nat × Nat)} {A : List Nat} {N : Nat} {fo wa : List Nat} {p : Nat} (h : Inv ps A N fo (wa ++ [p])) (hp : p ∈ fo) : Inv ps A N fo wa where
  nd := h.nd
  lo := h.lo
  lw := fun x hx => h.lw x (by simp [hx])
  rf := h.rf
  rw' := fun x hx => h.rw' x (by simp [hx])
  pl := fun x hx => by
    rcases h.pl x hx with z | z
    · exact .inl z
    · rcases List.mem_append.mp z with z | z
      · exact .inr z
      · rw [List.mem_singleton.mp z]; exact .inl hp
  cl := fun a b ha hb => by
    rcases h.cl a b ha hb with z | z
    · exact .inl z
    · rcases List.mem_append.mp z with z | z
      · exact .inr z
      · rw [List.mem_singleton.mp z]; exact .inl hp
theorem Inv.take {ps : List (Nat × Nat)} {A : List Nat} {N : Nat} {fo wa : List Nat} {p : Nat} (h : Inv ps A N fo (wa ++ [p])) (hp : p ∉ fo) (hN : ∀ q ∈ ps, q.2 < N) : Inv ps A N (fo ++ [p]) (wa ++ nxs ps p) where
  nd := List.nodup_append.mpr ⟨h.nd, by simp, fun a ha b hb => by rw [List.mem_singleton.mp hb]; exact fun z => hp (by rw [← z]; exact ha)⟩
  lo := fun x hx => by
    rcases List.mem_append.mp hx with z | z
    · exact h.lo x z
    · rw [List.mem_singleton.mp z]; exact h.lw p (by simp)
  lw := fun x hx => by
    rcases List.mem_append.mp hx with z | z
    · exact h.lw x (by simp [z])
    · exact hN _ (mem_nxs.mp z)
  rf := fun x hx => by
    rcases List.mem_append.mp hx with z | z
    · exact h.rf x z
    · rw [List.mem_singleton.mp z]; exact h.rw' p (by simp)
  rw' := fun x hx => by
    rcases List.mem_append.mp hx with z | z
    · exact h.rw' x (by simp [z])
    · exact .step (h.rw' p (by simp)) (mem_nxs.mp z)
  pl := fun x hx => by
    rcases h.pl x hx with z | z
    · exact .inl (by simp [z])
    · rcases List.mem_append.mp z with z | z
      · exact .inr (by simp [z])
      · exact .inl (by simp [List.mem_singleton.mp z])
  cl := fun a b ha hb => by
    rcases List.mem_append.mp ha with z | z
    · rcases h.cl a b z hb with y | y
      · exact .inl (by simp [y])
      · rcases List.mem_append.mp y with y | y
        · exact .inr (by simp [y])
        · exact .inl (by simp [List.mem_singleton.mp y])
    · rw [List.mem_singleton.mp z] at hb
      exact .inr (by simp [mem_nxs.mpr hb])
theorem Inv.done {ps : List (Nat × Nat)} {A : List Nat} {N : Nat} {fo : List Nat} (h : Inv ps A N fo []) (x : Nat) : x ∈ fo ↔ Reach ps A x := by
  refine ⟨h.rf x, fun r => ?_⟩
  induction r with
  | base ha => simpa using h.pl _ ha
  | step _ hb ih => simpa using h.cl _ _ ih hb
theorem Inv.start {ps : List (Nat × Nat)} {A : List Nat} {N : Nat} (h : ∀ x ∈ A, x < N) : Inv ps A N [] A := ⟨List.nodup_nil, nofun, h, nofun, fun x hx => .base hx, fun x hx => .inr hx, nofun⟩
theorem nodup_lt {N : Nat} {fo : List Nat} (h : fo.Nodup) (hl : ∀ x ∈ fo, x < N) : fo.length ≤ N := by
  have := h.length_le_of_subset (l₂ := List.range N) fun x hx => List.mem_range.mpr (hl x hx)
  simpa using this
end Tk06
end
section
/-! K06b: goals_of. -/
namespace Tk06
open Pv Pu
local macro_rules
  | `(tactic| simp! $[$l:location]?) => `(tactic| simp (maxDischargeDepth := 12) [-Option.bind_some, ob_some, Pv.get, Op.keeps, fetchs, fetch, opD, o_tup, o_lst, o_add, o_sub, o_mul, o_fdiv, o_mod, o_pow, o_neg, o_eq, o_ne, o_lt, o_gt, o_le, o_ge, o_in_, o_nin, o_isN, o_isnN, o_sl, o_len, o_abs, o_max, o_min, o_tupleOf, o_listOf, o_intOf, o_isi, o_get, o_get2, bounds, slD, dlook, flatD, keyOk, backs, ioFits, assigns, forget, T.slots, T.slotss, noOwn, frzSlot, sets, argsOf, iosOf, noDup, putBacks, setAt, putIx, subL, slotsG, isElt] $[$l]?)
  | `(tactic| simp! [$as,*] $[$l:location]?) => `(tactic| simp (maxDischargeDepth := 12) [-Option.bind_some, ob_some, Pv.get, Op.keeps, fetchs, fetch, opD, o_tup, o_lst, o_add, o_sub, o_mul, o_fdiv, o_mod, o_pow, o_neg, o_eq, o_ne, o_lt, o_gt, o_le, o_ge, o_in_, o_nin, o_isN, o_isnN, o_sl, o_len, o_abs, o_max, o_min, o_tupleOf, o_listOf, o_intOf, o_isi, o_get, o_get2, bounds, slD, dlook, flatD, keyOk, backs, ioFits, assigns, forget, T.slots, T.slotss, noOwn, frzSlot, sets, argsOf, iosOf, noDup, putBacks, setAt, putIx, subL, slotsG, isElt, $as,*] $[$l]?)

theorem keyI : KeyI (κ := Nat) nI := keyNat
/-- the ends of some edges -/
def prs (es : List Ed) (sm : List (Fin es.length)) : List (Nat × Nat) := sm.map fun k => ((ed es k).s, (ed es k).t)
theorem nxs_prs (es : List Ed) (sm : List (Fin es.length)) (a : Nat) : nxs (prs es sm) a = (sm.filter fun k => decide ((ed es k).s = a)).map fun k => (ed es k).t := by
  unfold nxs prs
  induction sm with
  | nil => rfl
  | cons k l ih =>
    rw [List.map_cons, List.filter_cons, List.filter_cons]
    by_cases h : (ed es k).s = a
    · simp only [h, decide_true, if_true, List.map_cons, ih]
    · simp only [h, decide_false]
      exact ih
theorem prs_len (es : List Ed) (sm : List (Fin es.length)) : (prs es sm).length = sm.length := by simp [prs]
def sc (p : Nat × Nat) : Nat × Nat := (p.2, p.1)
section
variable {es : List Ed} {sm : List (Fin es.length)} {S : D} {s2 : Option R}
theorem fD_has (fo : List Nat) (p : Nat) : mhas (fD fo) (.int (p : Int)) = decide (p ∈ fo) := by
  unfold mhas fD
  have := mlook_kvG keyI D.bl (fo.map fun n => (n, true)) p
  rw [show (.int (p : Int) : D) = nI p from rfl, this]
  by_cases h : p ∈ fo
  · have : lkG (fo.map fun n => (n, true)) p ≠ none := fun z => lkG_none.mp z (by simpa using h)
    obtain ⟨v, hv⟩ := Option.ne_none_iff_exists'.mp this
    rw [hv]
    simp [h]
  · rw [lkG_none.mpr (by simpa using h)]
    simp [h]
theorem fD_put (fo : List Nat) (p : Nat) (h : p ∉ fo) : mput (fD fo) (.int (p : Int)) (.bl true) = fD (fo ++ [p]) := by
  have := mput_kvG keyI D.bl (fo.map fun n => (n, true)) p true
  unfold fD
  rw [show (.int (p : Int) : D) = nI p from rfl, this, putG, if_neg (by simpa using h)]
  simp
theorem fD_len (fo : List Nat) : (fD fo).length = fo.length := by simp [fD]
def gE (es : List Ed) (S : D) (s2 : Option R) (fo wa : List Nat) : Env := [some (.v (.tup (es.map eD))), some (.v S), s2, some (.m (fD fo)), some (.l (wa.map nI)), none, none]
theorem goals_skip {C : Ctx} {fo wa : List Nat} {p : Nat} (hp : p ∈ fo) : rndW C B_goals_of_9 [5] (gE es S s2 fo (wa ++ [p])) = .next (gE es S s2 fo wa) := by
  unfold rndW gE
  simp! [fD_has, hp, nI]
theorem goals_take {C : Ctx} {fo wa : List Nat} {p : Nat} (hS : itemsOf S = some (sm.map fI)) (hp : p ∉ fo) (hf : fo.length ≤ 1000) (hw : wa.length ≤ 1000) (hs : sm.length ≤ 1000) : rndW C B_goals_of_9 [5] (gE es S s2 fo (wa ++ [p])) = .next (gE es S s2 (fo ++ [p]) (wa ++ nxs (prs es sm) p)) := by
  have h1 : (fD fo).length ≤ 100000 := by rw [fD_len]; omega
  have h2 : sm.length ≤ 100000 := by omega
  have h3 : (sm.filter fun k => decide ((ed es k).s = p)).length ≤ sm.length := List.length_filter_le _ _
  have h4 : wa.length + (sm.filter fun k => decide ((ed es k).s = p)).length ≤ 100000 := by omega
  have e1 : evS C S_goals_of_2 [some (.v (.tup (es.map eD))), some (.v S), s2, some (.m (fD fo)), some (.l ((wa ++ [p]).map nI)), none, none] = .next [some (.v (.tup (es.map eD))), some (.v S), s2, some (.m (fD fo)), some (.l (wa.map nI)), some (.v (.int (p : Int))), none] := by
    simp! [nI]
  have e2 : evT C Q_goals_of_3 [some (.v (.tup (es.map eD))), some (.v S), s2, some (.m (fD fo)), some (.l (wa.map nI)), some (.v (.int (p : Int))), none] = .ok true [some (.v (.tup (es.map eD))), some (.v S), s2, some (.m (fD fo)), some (.l (wa.map nI)), some (.v (.int (p : Int))), none] := by
    simp! [fD_has, hp]
  have e3 : evS C S_goals_of_4 [some (.v (.tup (es.map eD))), some (.v S), s2, some (.m (fD fo)), some (.l (wa.map nI)), some (.v (.int (p : Int))), none] = .next [some (.v (.tup (es.map eD))), some (.v S), s2, some (.m (fD (fo ++ [p]))), some (.l (wa.map nI)), some (.v (.int (p : Int))), none] := by
    simp! [fD_put, hp, h1]
  have e4 : evS C S_goals_of_6 [some (.v (.tup (es.map eD))), some (.v S), s2, some (.m (fD (fo ++ [p]))), some (.l (wa.map nI)), some (.v (.int (p : Int))), none] = .next [some (.v (.tup (es.map eD))), some (.v S), s2, some (.m (fD (fo ++ [p]))), some (.l ((wa ++ nxs (prs es sm) p).map nI)), some (.v (.int (p : Int))), none] := by
    rw [nxs_prs]
    unfold ed at h4 ⊢
    simp! [hS, h2, h4, fI]
    intro a _ _
    rfl
  have e5 : evSs C B_goals_of_9 (gE es S s2 fo (wa ++ [p])) = .next [some (.v (.tup (es.map eD))), some (.v S), s2, some (.m (fD (fo ++ [p]))), some (.l ((wa ++ nxs (prs es sm) p).map nI)), some (.v (.int (p : Int))), none] :=
    evSs_next e1 (evSs_next (ife_t e2 (evSs_next e3 (evSs_next e4 evSs_nil'))) evSs_nil')
  unfold rndW
  rw [e5]
  rfl
theorem goals_cond {C : Ctx} {fo wa : List Nat} : evT C (.op .ne (.cons (.v 4) (.cons (.op .lst .nil) .nil))) (gE es S s2 fo wa) = .ok (!wa.isEmpty) (gE es S s2 fo wa) := by
  unfold gE
  simp!
theorem goals_loop {C : Ctx} {A : List Nat} {N : Nat} (hS : itemsOf S = some (sm.map fI)) (hN : N ≤ 20) (hs : sm.length ≤ 20) (hp : ∀ q ∈ prs es sm, q.2 < N) : ∀ (m : Nat) (fo wa : List Nat), m ≤ 900 → Inv (prs es sm) A N fo wa → (N - fo.length) * (sm.length + 1) + wa.length ≤ m →
    ∃ fo', whileW (evT C (.op .ne (.cons (.v 4) (.cons (.op .lst .nil) .nil)))) (rndW C B_goals_of_9 [5]) (gE es S s2 fo wa) = .next (gE es S s2 fo' []) ∧ Inv (prs es sm) A N fo' [] := by
  intro m
  induction m with
  | zero =>
    intro fo wa _ hI hm
    have : wa = [] := List.length_eq_zero_iff.mp (by omega)
    subst this
    refine ⟨fo, ?_, hI⟩
    rw [whileW_eq, goals_cond]
    rfl
  | succ m ih =>
    intro fo wa hm' hI hm
    rw [whileW_eq, goals_cond]
    cases hw : wa.isEmpty with
    | true =>
      have : wa = [] := List.isEmpty_iff.mp hw
      subst this
      exact ⟨fo, rfl, hI⟩
    | false =>
      have hne : wa ≠ [] := fun z => by subst z; cases hw
      obtain ⟨wa', p, rfl⟩ : ∃ ws' x, wa = ws' ++ [x] := ⟨wa.dropLast, wa.getLast hne, (List.dropLast_concat_getLast hne).symm⟩
      simp only [Bool.not_false, Out.fl, if_true]
      rw [List.length_append, List.length_singleton] at hm
      have hfl := nodup_lt hI.nd hI.lo
      by_cases h : p ∈ fo
      · rw [goals_skip h]
        simp only
        exact ih fo wa' (by omega) (hI.skip h) (by omega)
      · have hn := nxs_len (prs es sm) p
        rw [prs_len] at hn
        rw [goals_take hS h (by omega) (by omega) (by omega)]
        simp only
        have hI' := hI.take h hp
        have hl2 := nodup_lt hI'.nd hI'.lo
        rw [List.length_append, List.length_singleton] at hl2
        refine ih (fo ++ [p]) (wa' ++ nxs (prs es sm) p) (by omega) hI' ?_
        rw [List.length_append, List.length_append, List.length_singleton]
        have e : N - fo.length = (N - (fo.length + 1)) + 1 := by omega
        rw [e, Nat.add_mul] at hm
        omega
/-- the places that are reached, in order -/
noncomputable def RL (ps : List (Nat × Nat)) (A : List Nat) (N : Nat) : List Nat := by
  classical
  exact (List.range N).filter fun b => decide (Reach ps A b)
theorem RL_mem {ps : List (Nat × Nat)} {A : List Nat} {N : Nat} {x : Nat} : x ∈ RL ps A N ↔ x < N ∧ Reach ps A x := by
  unfold RL
  simp
theorem RL_sorted (ps : List (Nat × Nat)) (A : List Nat) (N : Nat) : (RL ps A N).Pairwise (· < ·) := by
  unfold RL
  exact List.Pairwise.filter _ List.pairwise_lt_range
theorem RL_nodup (ps : List (Nat × Nat)) (A : List Nat) (N : Nat) : (RL ps A N).Nodup := (RL_sorted ps A N).imp fun h => Nat.ne_of_lt h
theorem sortN {l m : List Nat} (hl : l.Nodup) (hm : m.Pairwise (· < ·)) (h : ∀ x, x ∈ l ↔ x ∈ m) : sortI (l.map fun (n : Nat) => (n : Int)) = m.map fun (n : Nat) => (n : Int) := by
  refine (sortI_unique ?_ ?_).symm
  · exact ((List.perm_ext_iff_of_nodup (hm.imp fun h => Nat.ne_of_lt h) hl).mpr fun x => (h x).symm).map _
  · rw [List.pairwise_map]
    exact hm.imp fun h => by omega
theorem toInts_nI (l : List Nat) : toInts (l.map nI) = some (l.map fun (n : Nat) => (n : Int)) := toInts_mapS (fun n : Nat => (n : Int)) l
theorem sortD_nI {l m : List Nat} (hl : l.Nodup) (hm : m.Pairwise (· < ·)) (h : ∀ x, x ∈ l ↔ x ∈ m) : sortD (l.map nI) = some (m.map nI) := by
  unfold sortD
  rw [toInts_nI]
  simp only
  rw [sortN hl hm h, List.map_map]
  rfl
end
theorem e0 (k : Nat) (es : List Ed) (sm : List (Fin es.length)) (S : D) (A : List Nat) (N : Nat) (hS : itemsOf S = some (sm.map fI)) (hN : N ≤ 20) (hs : sm.length ≤ 20) (hp : ∀ q ∈ prs es sm, q.2 < N) (hA : ∀ x ∈ A, x < N) (hA2 : A.length ≤ 20) :
    cf (k + 1) 0 [.v (.tup (es.map eD)), .v S, .v (.tup (A.map nI))] = .ok (.v (.tup ((RL (prs es sm) A N).map nI))) [] := by
  obtain ⟨fo, h1, h2⟩ := goals_loop (C := Ko k) (s2 := some (.v (.tup (A.map nI)))) hS hN hs hp 900 [] A (by omega) (Inv.start hA) (by
    have : N * (sm.length + 1) ≤ 20 * 21 := Nat.mul_le_mul hN (by omega)
    simp
    omega)
  have h3 : sortD ((fD fo).map (·.1)) = some ((RL (prs es sm) A N).map nI) := by
    have : (fD fo).map (·.1) = fo.map nI := by simp [fD, kvG]
    rw [this]
    exact sortD_nI h2.nd (RL_sorted _ _ _) fun x => by
      rw [RL_mem, h2.done]
      exact ⟨fun h => ⟨h2.lo x ((h2.done x).mpr h), h⟩, fun h => h.2⟩
  have hfl := nodup_lt h2.nd h2.lo
  have h4 : (fD fo).length < 64 := by rw [fD_len]; omega
  have h5 : o_sorted [.dic (fD fo)] = some (.l ((RL (prs es sm) A N).map nI)) := by
    simp only [o_sorted, h4, if_true, h3, Option.map_some]
  rw [d0 _ _ rfl]
  have s1 : evS (Ko k) S_goals_of_1 [some (.v (.tup (es.map eD))), some (.v S), some (.v (.tup (A.map nI))), none, none, none, none] = .next (gE es S (some (.v (.tup (A.map nI)))) [] A) := by
    simp! [gE, fD, o_dic, pairUp, mputs]
  have s2 : evS (Ko k) S_goals_of_10 (gE es S (some (.v (.tup (A.map nI)))) [] A) = .next (gE es S (some (.v (.tup (A.map nI)))) fo []) := by
    rw [uS_goals_of_10, evS_whlK]
    exact h1
  have s3 : evS (Ko k) S_goals_of_11 (gE es S (some (.v (.tup (A.map nI)))) fo []) = .ret (.v (.tup ((RL (prs es sm) A N).map nI))) (gE es S (some (.v (.tup (A.map nI)))) fo []) := by
    simp! [gE, h5]
  have e : evSs (Ko k) b_goals_of [some (.v (.tup (es.map eD))), some (.v S), some (.v (.tup (A.map nI))), none, none, none, none] = .ret (.v (.tup ((RL (prs es sm) A N).map nI))) (gE es S (some (.v (.tup (A.map nI)))) fo []) := evSs_next s1 (evSs_next s2 (evSs_ret s3))
  have e' : ([R.v (.tup (es.map eD)), R.v S, R.v (.tup (A.map nI))].map some ++ List.replicate (7 - 3) none : Env) = [some (.v (.tup (es.map eD))), some (.v S), some (.v (.tup (A.map nI))), none, none, none, none] := rfl
  rw [e', e]
  rfl
end Tk06
end
section
/-! K06c: sources_of (printed from K06b). -/
namespace Tk06
open Pv Pu
local macro_rules
  | `(tactic| simp! $[$l:location]?) => `(tactic| simp (maxDischargeDepth := 12) [-Option.bind_some, ob_some, Pv.get, Op.keeps, fetchs, fetch, opD, o_tup, o_lst, o_add, o_sub, o_mul, o_fdiv, o_mod, o_pow, o_neg, o_eq, o_ne, o_lt, o_gt, o_le, o_ge, o_in_, o_nin, o_isN, o_isnN, o_sl, o_len, o_abs, o_max, o_min, o_tupleOf, o_listOf, o_intOf, o_isi, o_get, o_get2, bounds, slD, dlook, flatD, keyOk, backs, ioFits, assigns, forget, T.slots, T.slotss, noOwn, frzSlot, sets, argsOf, iosOf, noDup, putBacks, setAt, putIx, subL, slotsG, isElt] $[$l]?)
  | `(tactic| simp! [$as,*] $[$l:location]?) => `(tactic| simp (maxDischargeDepth := 12) [-Option.bind_some, ob_some, Pv.get, Op.keeps, fetchs, fetch, opD, o_tup, o_lst, o_add, o_sub, o_mul, o_fdiv, o_mod, o_pow, o_neg, o_eq, o_ne, o_lt, o_gt, o_le, o_ge, o_in_, o_nin, o_isN, o_isnN, o_sl, o_len, o_abs, o_max, o_min, o_tupleOf, o_listOf, o_intOf, o_isi, o_get, o_get2, bounds, slD, dlook, flatD, keyOk, backs, ioFits, assigns, forget, T.slots, T.slotss, noOwn, frzSlot, sets, argsOf, iosOf, noDup, putBacks, setAt, putIx, subL, slotsG, isElt, $as,*] $[$l]?)

/-- the ends of some edges -/
def prt (es : List Ed) (sm : List (Fin es.length)) : List (Nat × Nat) := sm.map fun k => ((ed es k).t, (ed es k).s)
theorem nxs_prt (es : List Ed) (sm : List (Fin es.length)) (a : Nat) : nxs (prt es sm) a = (sm.filter fun k => decide ((ed es k).t = a)).map fun k => (ed es k).s := by
  unfold nxs prt
  induction sm with
  | nil => rfl
  | cons k l ih =>
    rw [List.map_cons, List.filter_cons, List.filter_cons]
    by_cases h : (ed es k).t = a
    · simp only [h, decide_true, if_true, List.map_cons, ih]
    · simp only [h, decide_false]
      exact ih
theorem prt_len (es : List Ed) (sm : List (Fin es.length)) : (prt es sm).length = sm.length := by simp [prt]
section
variable {es : List Ed} {sm : List (Fin es.length)} {S : D} {s2 : Option R}
theorem sources_skip {C : Ctx} {fo wa : List Nat} {p : Nat} (hp : p ∈ fo) : rndW C B_sources_of_9 [5] (gE es S s2 fo (wa ++ [p])) = .next (gE es S s2 fo wa) := by
  unfold rndW gE
  simp! [fD_has, hp, nI]
theorem sources_take {C : Ctx} {fo wa : List Nat} {p : Nat} (hS : itemsOf S = some (sm.map fI)) (hp : p ∉ fo) (hf : fo.length ≤ 1000) (hw : wa.length ≤ 1000) (hs : sm.length ≤ 1000) : rndW C B_sources_of_9 [5] (gE es S s2 fo (wa ++ [p])) = .next (gE es S s2 (fo ++ [p]) (wa ++ nxs (prt es sm) p)) := by
  have h1 : (fD fo).length ≤ 100000 := by rw [fD_len]; omega
  have h2 : sm.length ≤ 100000 := by omega
  have h3 : (sm.filter fun k => decide ((ed es k).t = p)).length ≤ sm.length := List.length_filter_le _ _
  have h4 : wa.length + (sm.filter fun k => decide ((ed es k).t = p)).length ≤ 100000 := by omega
  have e1 : evS C S_sources_of_2 [some (.v (.tup (es.map eD))), some (.v S), s2, some (.m (fD fo)), some (.l ((wa ++ [p]).map nI)), none, none] = .next [some (.v (.tup (es.map eD))), some (.v S), s2, some (.m (fD fo)), some (.l (wa.map nI)), some (.v (.int (p : Int))), none] := by
    simp! [nI]
  have e2 : evT C Q_sources_of_3 [some (.v (.tup (es.map eD))), some (.v S), s2, some (.m (fD fo)), some (.l (wa.map nI)), some (.v (.int (p : Int))), none] = .ok true [some (.v (.tup (es.map eD))), some (.v S), s2, some (.m (fD fo)), some (.l (wa.map nI)), some (.v (.int (p : Int))), none] := by
    simp! [fD_has, hp]
  have e3 : evS C S_sources_of_4 [some (.v (.tup (es.map eD))), some (.v S), s2, some (.m (fD fo)), some (.l (wa.map nI)), some (.v (.int (p : Int))), none] = .next [some (.v (.tup (es.map eD))), some (.v S), s2, some (.m (fD (fo ++ [p]))), some (.l (wa.map nI)), some (.v (.int (p : Int))), none] := by
    simp! [fD_put, hp, h1]
  have e4 : evS C S_sources_of_6 [some (.v (.tup (es.map eD))), some (.v S), s2, some (.m (fD (fo ++ [p]))), some (.l (wa.map nI)), some (.v (.int (p : Int))), none] = .next [some (.v (.tup (es.map eD))), some (.v S), s2, some (.m (fD (fo ++ [p]))), some (.l ((wa ++ nxs (prt es sm) p).map nI)), some (.v (.int (p : Int))), none] := by
    rw [nxs_prt]
    unfold ed at h4 ⊢
    simp! [hS, h2, h4, fI]
    intro a _ _
    rfl
  have e5 : evSs C B_sources_of_9 (gE es S s2 fo (wa ++ [p])) = .next [some (.v (.tup (es.map eD))), some (.v S), s2, some (.m (fD (fo ++ [p]))), some (.l ((wa ++ nxs (prt es sm) p).map nI)), some (.v (.int (p : Int))), none] :=
    evSs_next e1 (evSs_next (ife_t e2 (evSs_next e3 (evSs_next e4 evSs_nil'))) evSs_nil')
  unfold rndW
  rw [e5]
  rfl
theorem sources_cond {C : Ctx} {fo wa : List Nat} : evT C (.op .ne (.cons (.v 4) (.cons (.op .lst .nil) .nil))) (gE es S s2 fo wa) = .ok (!wa.isEmpty) (gE es S s2 fo wa) := by
  unfold gE
  simp!
theorem sources_loop {C : Ctx} {A : List Nat} {N : Nat} (hS : itemsOf S = some (sm.map fI)) (hN : N ≤ 20) (hs : sm.length ≤ 20) (hp : ∀ q ∈ prt es sm, q.2 < N) : ∀ (m : Nat) (fo wa : List Nat), m ≤ 900 → Inv (prt es sm) A N fo wa → (N - fo.length) * (sm.length + 1) + wa.length ≤ m →
    ∃ fo', whileW (evT C (.op .ne (.cons (.v 4) (.cons (.op .lst .nil) .nil)))) (rndW C B_sources_of_9 [5]) (gE es S s2 fo wa) = .next (gE es S s2 fo' []) ∧ Inv (prt es sm) A N fo' [] := by
  intro m
  induction m with
  | zero =>
    intro fo wa _ hI hm
    have : wa = [] := List.length_eq_zero_iff.mp (by omega)
    subst this
    refine ⟨fo, ?_, hI⟩
    rw [whileW_eq, sources_cond]
    rfl
  | succ m ih =>
    intro fo wa hm' hI hm
    rw [whileW_eq, sources_cond]
    cases hw : wa.isEmpty with
    | true =>
      have : wa = [] := List.isEmpty_iff.mp hw
      subst this
      exact ⟨fo, rfl, hI⟩
    | false =>
      have hne : wa ≠ [] := fun z => by subst z; cases hw
      obtain ⟨wa', p, rfl⟩ : ∃ ws' x, wa = ws' ++ [x] := ⟨wa.dropLast, wa.getLast hne, (List.dropLast_concat_getLast hne).symm⟩
      simp only [Bool.not_false, Out.fl, if_true]
      rw [List.length_append, List.length_singleton] at hm
      have hfl := nodup_lt hI.nd hI.lo
      by_cases h : p ∈ fo
      · rw [sources_skip h]
        simp only
        exact ih fo wa' (by omega) (hI.skip h) (by omega)
      · have hn := nxs_len (prt es sm) p
        rw [prt_len] at hn
        rw [sources_take hS h (by omega) (by omega) (by omega)]
        simp only
        have hI' := hI.take h hp
        have hl2 := nodup_lt hI'.nd hI'.lo
        rw [List.length_append, List.length_singleton] at hl2
        refine ih (fo ++ [p]) (wa' ++ nxs (prt es sm) p) (by omega) hI' ?_
        rw [List.length_append, List.length_append, List.length_singleton]
        have e : N - fo.length = (N - (fo.length + 1)) + 1 := by omega
        rw [e, Nat.add_mul] at hm
        omega
end
theorem e1 (k : Nat) (es : List Ed) (sm : List (Fin es.length)) (S : D) (A : List Nat) (N : Nat) (hS : itemsOf S = some (sm.map fI)) (hN : N ≤ 20) (hs : sm.length ≤ 20) (hp : ∀ q ∈ prt es sm, q.2 < N) (hA : ∀ x ∈ A, x < N) (hA2 : A.length ≤ 20) :
    cf (k + 1) 1 [.v (.tup (es.map eD)), .v S, .v (.tup (A.map nI))] = .ok (.v (.tup ((RL (prt es sm) A N).map nI))) [] := by
  obtain ⟨fo, h1, h2⟩ := sources_loop (C := Ko k) (s2 := some (.v (.tup (A.map nI)))) hS hN hs hp 900 [] A (by omega) (Inv.start hA) (by
    have : N * (sm.length + 1) ≤ 20 * 21 := Nat.mul_le_mul hN (by omega)
    simp
    omega)
  have h3 : sortD ((fD fo).map (·.1)) = some ((RL (prt es sm) A N).map nI) := by
    have : (fD fo).map (·.1) = fo.map nI := by simp [fD, kvG]
    rw [this]
    exact sortD_nI h2.nd (RL_sorted _ _ _) fun x => by
      rw [RL_mem, h2.done]
      exact ⟨fun h => ⟨h2.lo x ((h2.done x).mpr h), h⟩, fun h => h.2⟩
  have hfl := nodup_lt h2.nd h2.lo
  have h4 : (fD fo).length < 64 := by rw [fD_len]; omega
  have h5 : o_sorted [.dic (fD fo)] = some (.l ((RL (prt es sm) A N).map nI)) := by
    simp only [o_sorted, h4, if_true, h3, Option.map_some]
  rw [d1 _ _ rfl]
  have s1 : evS (Ko k) S_sources_of_1 [some (.v (.tup (es.map eD))), some (.v S), some (.v (.tup (A.map nI))), none, none, none, none] = .next (gE es S (some (.v (.tup (A.map nI)))) [] A) := by
    simp! [gE, fD, o_dic, pairUp, mputs]
  have s2 : evS (Ko k) S_sources_of_10 (gE es S (some (.v (.tup (A.map nI)))) [] A) = .next (gE es S (some (.v (.tup (A.map nI)))) fo []) := by
    rw [uS_sources_of_10, evS_whlK]
    exact h1
  have s3 : evS (Ko k) S_sources_of_11 (gE es S (some (.v (.tup (A.map nI)))) fo []) = .ret (.v (.tup ((RL (prt es sm) A N).map nI))) (gE es S (some (.v (.tup (A.map nI)))) fo []) := by
    simp! [gE, h5]
  have e : evSs (Ko k) b_sources_of [some (.v (.tup (es.map eD))), some (.v S), some (.v (.tup (A.map nI))), none, none, none, none] = .ret (.v (.tup ((RL (prt es sm) A N).map nI))) (gE es S (some (.v (.tup (A.map nI)))) fo []) := evSs_next s1 (evSs_next s2 (evSs_ret s3))
  have e' : ([R.v (.tup (es.map eD)), R.v S, R.v (.tup (A.map nI))].map some ++ List.replicate (7 - 3) none : Env) = [some (.v (.tup (es.map eD))), some (.v S), some (.v (.tup (A.map nI))), none, none, none, none] := rfl
  rw [e', e]
  rfl
end Tk06
end
section
/-! K06d: the law's own going. -/
namespace Tk06
open Pv Pu
local macro_rules
  | `(tactic| simp! $[$l:location]?) => `(tactic| simp (maxDischargeDepth := 12) [-Option.bind_some, ob_some, Pv.get, Op.keeps, fetchs, fetch, opD, o_tup, o_lst, o_add, o_sub, o_mul, o_fdiv, o_mod, o_pow, o_neg, o_eq, o_ne, o_lt, o_gt, o_le, o_ge, o_in_, o_nin, o_isN, o_isnN, o_sl, o_len, o_abs, o_max, o_min, o_tupleOf, o_listOf, o_intOf, o_isi, o_get, o_get2, bounds, slD, dlook, flatD, keyOk, backs, ioFits, assigns, forget, T.slots, T.slotss, noOwn, frzSlot, sets, argsOf, iosOf, noDup, putBacks, setAt, putIx, subL, slotsG, isElt] $[$l]?)
  | `(tactic| simp! [$as,*] $[$l:location]?) => `(tactic| simp (maxDischargeDepth := 12) [-Option.bind_some, ob_some, Pv.get, Op.keeps, fetchs, fetch, opD, o_tup, o_lst, o_add, o_sub, o_mul, o_fdiv, o_mod, o_pow, o_neg, o_eq, o_ne, o_lt, o_gt, o_le, o_ge, o_in_, o_nin, o_isN, o_isnN, o_sl, o_len, o_abs, o_max, o_min, o_tupleOf, o_listOf, o_intOf, o_isi, o_get, o_get2, bounds, slD, dlook, flatD, keyOk, backs, ioFits, assigns, forget, T.slots, T.slotss, noOwn, frzSlot, sets, argsOf, iosOf, noDup, putBacks, setAt, putIx, subL, slotsG, isElt, $as,*] $[$l]?)

def pD (p : Nat × Nat) : D := .tup [nI p.1, nI p.2]
/-- one round -/
def rnF (ps : List (Nat × Nat)) (b : List Nat) : List Nat := b ++ (ps.filter fun p => decide (p.1 ∈ b) && !decide (p.2 ∈ b)).map (·.2)
def closed (ps : List (Nat × Nat)) (b : List Nat) : Prop := ∀ p ∈ ps, p.1 ∈ b → p.2 ∈ b
def un (ps : List (Nat × Nat)) (b : List Nat) : Nat := (ps.filter fun p => !decide (p.2 ∈ b)).length
theorem rn_closed {ps : List (Nat × Nat)} {b : List Nat} (h : closed ps b) : rnF ps b = b := by
  unfold rnF
  rw [List.filter_eq_nil_iff.mpr fun p hp => ?_, List.map_nil, List.append_nil]
  by_cases z : p.1 ∈ b
  · simp [h p hp z]
  · simp [z]
theorem rn_mem {ps : List (Nat × Nat)} {b : List Nat} {x : Nat} : x ∈ rnF ps b ↔ x ∈ b ∨ ∃ a, (a, x) ∈ ps ∧ a ∈ b := by
  unfold rnF
  rw [List.mem_append]
  constructor
  · rintro (h | h)
    · exact .inl h
    · obtain ⟨p, hp, rfl⟩ := List.mem_map.mp h
      have := List.mem_filter.mp hp
      have h2 : p.1 ∈ b ∧ ¬ p.2 ∈ b := by simpa using this.2
      exact .inr ⟨p.1, this.1, h2.1⟩
  · rintro (h | ⟨a, h1, h2⟩)
    · exact .inl h
    · by_cases z : x ∈ b
      · exact .inl z
      · exact .inr (List.mem_map.mpr ⟨(a, x), List.mem_filter.mpr ⟨h1, by simp [h2, z]⟩, rfl⟩)
theorem un_lt {ps : List (Nat × Nat)} {b : List Nat} (h : ¬ closed ps b) : un ps (rnF ps b) < un ps b := by
  obtain ⟨p, hp, h1, h2⟩ : ∃ p ∈ ps, p.1 ∈ b ∧ p.2 ∉ b := by
    apply Classical.byContradiction
    intro z
    exact h fun p hp h1 => Classical.byContradiction fun h2 => z ⟨p, hp, h1, h2⟩
  unfold un
  have hsub : (ps.filter fun p => !decide (p.2 ∈ rnF ps b)) = (ps.filter fun p => !decide (p.2 ∈ b)).filter fun p => !decide (p.2 ∈ rnF ps b) := by
    rw [List.filter_filter]
    refine List.filter_congr fun q _ => ?_
    by_cases z : q.2 ∈ b
    · have : q.2 ∈ rnF ps b := rn_mem.mpr (.inl z)
      simp [this]
    · simp [z]
  rw [hsub]
  refine Nat.lt_of_le_of_ne (List.length_filter_le _ _) fun e => ?_
  have := List.length_filter_eq_length_iff.mp e p (List.mem_filter.mpr ⟨hp, by simp [h2]⟩)
  have hm : p.2 ∈ rnF ps b := rn_mem.mpr (.inr ⟨p.1, hp, h1⟩)
  simp [hm] at this
def itF (ps : List (Nat × Nat)) : Nat → List Nat → List Nat
  | 0, b => b
  | n + 1, b => itF ps n (rnF ps b)
theorem it_closed {ps : List (Nat × Nat)} {b : List Nat} (h : closed ps b) : ∀ n, itF ps n b = b
  | 0 => rfl
  | n + 1 => by rw [itF, rn_closed h, it_closed h n]
theorem it_ends {ps : List (Nat × Nat)} : ∀ (n : Nat) (b : List Nat), un ps b < n → closed ps (itF ps n b)
  | 0, b, h => by omega
  | n + 1, b, h => by
    by_cases z : closed ps b
    · rw [it_closed z]; exact z
    · have := un_lt z
      rw [itF]
      exact it_ends n _ (by omega)
theorem it_sub {ps : List (Nat × Nat)} : ∀ (n : Nat) (b : List Nat) (x : Nat), x ∈ b → x ∈ itF ps n b
  | 0, b, x, h => h
  | n + 1, b, x, h => it_sub n _ x (rn_mem.mpr (.inl h))
theorem it_reach {ps : List (Nat × Nat)} {A : List Nat} : ∀ (n : Nat) (b : List Nat), (∀ x ∈ b, Reach ps A x) → ∀ x ∈ itF ps n b, Reach ps A x
  | 0, b, h => h
  | n + 1, b, h => it_reach n _ fun x hx => by
    rcases rn_mem.mp hx with z | ⟨a, h1, h2⟩
    · exact h x z
    · exact .step (h a h2) h1
theorem it_all {ps : List (Nat × Nat)} {A : List Nat} (x : Nat) : x ∈ itF ps (ps.length + 1) A ↔ Reach ps A x := by
  refine ⟨it_reach _ A (fun x hx => .base hx) x, fun r => ?_⟩
  have hc : closed ps (itF ps (ps.length + 1) A) := it_ends _ _ (by
    have : un ps A ≤ ps.length := List.length_filter_le _ _
    omega)
  induction r with
  | base h => exact it_sub _ _ _ h
  | step _ hb ih => exact hc _ hb ih
theorem fold_it (ps : List (Nat × Nat)) : ∀ (l : List Nat) (b : List Nat), l.foldl (fun b _ => rnF ps b) b = itF ps l.length b
  | [], b => rfl
  | _ :: l, b => fold_it ps l _
theorem rn_len (ps : List (Nat × Nat)) (b : List Nat) : (rnF ps b).length ≤ b.length + ps.length := by
  unfold rnF
  rw [List.length_append, List.length_map]
  have := List.length_filter_le (fun p : Nat × Nat => decide (p.1 ∈ b) && !decide (p.2 ∈ b)) ps
  omega
def ddN : List Nat → List Nat
  | [] => []
  | a :: r => if a ∈ r then ddN r else a :: ddN r
theorem beq_nI (a b : Nat) : D.beq (nI a) (nI b) = decide (a = b) := keyI.beq a b
theorem dedup_nI : ∀ xs : List Nat, dedup (xs.map nI) = (ddN xs).map nI
  | [] => rfl
  | a :: r => by
    have e : ((r.map nI).any (D.beq (nI a))) = decide (a ∈ r) := by
      rw [any_map']
      simp only [beq_nI]
      by_cases h : a ∈ r
      · rw [decide_eq_true h]
        exact List.any_eq_true.mpr ⟨a, h, by simp⟩
      · rw [decide_eq_false h]
        refine List.any_eq_false.mpr fun x hx => ?_
        simp
        intro z
        exact h (by rw [z]; exact hx)
    rw [List.map_cons, dedup, e, ddN, dedup_nI r]
    by_cases h : a ∈ r <;> simp [h]
theorem ddN_mem : ∀ {xs : List Nat} {x : Nat}, x ∈ ddN xs ↔ x ∈ xs
  | [], _ => Iff.rfl
  | a :: r, x => by
    rw [ddN]
    by_cases h : a ∈ r
    · rw [if_pos h, ddN_mem, List.mem_cons]
      constructor
      · exact .inr
      · rintro (rfl | z)
        · exact h
        · exact z
    · rw [if_neg h, List.mem_cons, List.mem_cons, ddN_mem]
theorem ddN_nodup : ∀ xs : List Nat, (ddN xs).Nodup
  | [] => List.nodup_nil
  | a :: r => by
    rw [ddN]
    split
    · exact ddN_nodup r
    · rename_i h
      exact List.nodup_cons.mpr ⟨fun z => h (ddN_mem.mp z), ddN_nodup r⟩
theorem sset_nI {xs m : List Nat} (hx : xs.length < 1000) (hm : m.Pairwise (· < ·)) (h : ∀ x, x ∈ xs ↔ x ∈ m) : o_sset [.lst (xs.map nI)] = some (.l (m.map nI)) ∧ o_sset [.tup (xs.map nI)] = some (.l (m.map nI)) := by
  have e := sortD_nI (ddN_nodup xs) hm fun x => by rw [ddN_mem]; exact h x
  constructor
  · simp only [o_sset, List.length_map, hx, if_true, dedup_nI, e, Option.map_some]
  · simp only [o_sset, List.length_map, hx, if_true, dedup_nI, e, Option.map_some]
@[simp] theorem pD_a (p : Nat × Nat) (x y : Nat) (σ : Env) : assign (.t [.v x, .v y]) (.v (pD p)) σ = (assign (.v x) (.v (nI p.1)) σ).bind fun σ => (assign (.v y) (.v (nI p.2)) σ) := by
  simp only [pD, assign, assigns]
  by_cases h : x < σ.length <;> simp [h]
@[simp high] theorem any_nI' (l : List Nat) (i : Nat) : ((l.map nI).any fun x => eqs x (nI i)) = decide (i ∈ l) := any_nI l i
@[simp] theorem nd_I (i : Nat) : noDic (nI i) = true := rfl
@[simp] theorem dp_I (i : Nat) : dep (nI i) ≤ 60 := Nat.zero_le _
theorem behind_step {C : Ctx} {ps : List (Nat × Nat)} {b : List Nat} {s1 : Option R} {d : D} (hp : ps.length ≤ 100) (hb : b.length ≤ 10000) : rnd C (.v 3) B_law_behind_4 [3] d [some (.v (.lst (ps.map pD))), s1, some (.l (b.map nI)), none, none, none] = .next [some (.v (.lst (ps.map pD))), s1, some (.l ((rnF ps b).map nI)), none, none, none] := by
  have h1 : ps.length ≤ 100000 := by omega
  have h2 := List.length_filter_le (fun p : Nat × Nat => decide (p.1 ∈ b) && !decide (p.2 ∈ b)) ps
  have h3 : b.length + (ps.filter fun p : Nat × Nat => decide (p.1 ∈ b) && !decide (p.2 ∈ b)).length ≤ 100000 := by omega
  simp! [h1, h3, rnF]
end Tk06
end
section
/-! K06e: the law's own going; rings. -/
namespace Tk06
open Pv Pu
local macro_rules
  | `(tactic| simp! $[$l:location]?) => `(tactic| simp (maxDischargeDepth := 12) [-Option.bind_some, ob_some, Pv.get, Op.keeps, fetchs, fetch, opD, o_tup, o_lst, o_add, o_sub, o_mul, o_fdiv, o_mod, o_pow, o_neg, o_eq, o_ne, o_lt, o_gt, o_le, o_ge, o_in_, o_nin, o_isN, o_isnN, o_sl, o_len, o_abs, o_max, o_min, o_tupleOf, o_listOf, o_intOf, o_isi, o_get, o_get2, bounds, slD, dlook, flatD, keyOk, backs, ioFits, assigns, forget, T.slots, T.slotss, noOwn, frzSlot, sets, argsOf, iosOf, noDup, putBacks, setAt, putIx, subL, slotsG, isElt] $[$l]?)
  | `(tactic| simp! [$as,*] $[$l:location]?) => `(tactic| simp (maxDischargeDepth := 12) [-Option.bind_some, ob_some, Pv.get, Op.keeps, fetchs, fetch, opD, o_tup, o_lst, o_add, o_sub, o_mul, o_fdiv, o_mod, o_pow, o_neg, o_eq, o_ne, o_lt, o_gt, o_le, o_ge, o_in_, o_nin, o_isN, o_isnN, o_sl, o_len, o_abs, o_max, o_min, o_tupleOf, o_listOf, o_intOf, o_isi, o_get, o_get2, bounds, slD, dlook, flatD, keyOk, backs, ioFits, assigns, forget, T.slots, T.slotss, noOwn, frzSlot, sets, argsOf, iosOf, noDup, putBacks, setAt, putIx, subL, slotsG, isElt, $as,*] $[$l]?)

theorem walk_r1 (n : Nat) (h : n ≤ 1000) : walk .range [.int ((n : Int) + 1)] = some ((List.range (n + 1)).map fun (k : Nat) => D.int (k : Int)) := by
  have := walk_rn (n + 1) (by omega)
  rwa [show (((n + 1 : Nat)) : Int) = (n : Int) + 1 by omega] at this
theorem it_len (ps : List (Nat × Nat)) : ∀ (n : Nat) (b : List Nat), (itF ps n b).length ≤ b.length + n * ps.length
  | 0, b => by simp [itF]
  | n + 1, b => by
    have h1 := it_len ps n (rnF ps b)
    have h2 := rn_len ps b
    rw [itF, Nat.succ_mul]
    omega
theorem e15 (k : Nat) (ps : List (Nat × Nat)) (A : List Nat) (N : Nat) (hp : ps.length ≤ 20) (hA : A.length ≤ 20) (hpN : ∀ q ∈ ps, q.2 < N) (hAN : ∀ x ∈ A, x < N) : cf (k + 1) 15 [.v (.lst (ps.map pD)), .v (.lst (A.map nI))] = .ok (.l ((RL ps A N).map nI)) [] := by
  have hL := (forL_foldN (body := rnd (Ko k) (.v 3) B_law_behind_4 [3]) (fun b : List Nat => [some (.v (.lst (ps.map pD))), some (.v (.lst (A.map nI))), some (.l (b.map nI)), none, none, none]) (fun b _ => rnF ps b) (fun n b => b.length ≤ A.length + n * 20) (fun (k : Nat) => D.int (k : Int)) (l := List.range (ps.length + 1)) (b := A) (n := 0) (by omega) fun i a ha b hb => by
    have hi : i < (List.range (ps.length + 1)).length := (List.getElem?_eq_some_iff.mp ha).1
    rw [List.length_range] at hi
    have h2 := rn_len ps b
    exact ⟨.inl (behind_step (by omega) (by omega)), by omega⟩).1
  rw [fold_it, List.length_range] at hL
  have hlt : ∀ x, Reach ps A x → x < N := fun x r => by
    induction r with
    | base h => exact hAN _ h
    | step _ hb _ => exact hpN _ hb
  have h1 := it_len ps (ps.length + 1) A
  have h2 : (itF ps (ps.length + 1) A).length < 1000 := by
    have : (ps.length + 1) * ps.length ≤ 21 * 20 := Nat.mul_le_mul (by omega) hp
    omega
  have h3 := (sset_nI (xs := itF ps (ps.length + 1) A) (m := RL ps A N) h2 (RL_sorted _ _ _) fun x => by
    rw [it_all, RL_mem]
    exact ⟨fun r => ⟨hlt x r, r⟩, fun h => h.2⟩).1
  rw [d15 _ _ rfl]
  generalize itF ps (ps.length + 1) A = F at hL h3
  have hw := walk_r1 ps.length (by omega)
  simp! [evS_forK, -uB_law_behind_4, hL, hw, h3]
/-! ### places, rings -/
theorem RL_bound {ps : List (Nat × Nat)} {A : List Nat} {N : Nat} (hpN : ∀ q ∈ ps, q.2 < N) (hAN : ∀ x ∈ A, x < N) {x : Nat} : x ∈ RL ps A N ↔ Reach ps A x := by
  rw [RL_mem]
  refine ⟨fun h => h.2, fun r => ⟨?_, r⟩⟩
  induction r with
  | base h => exact hAN _ h
  | step _ hb _ => exact hpN _ hb
theorem Reach.trans {ps : List (Nat × Nat)} {a b c : Nat} (h1 : Reach ps [a] b) (h2 : Reach ps [b] c) : Reach ps [a] c := by
  induction h2 with
  | base h => rw [List.mem_singleton.mp h]; exact h1
  | step _ hb ih => exact .step ih hb
theorem Reach.refl {ps : List (Nat × Nat)} (a : Nat) : Reach ps [a] a := .base (by simp)
/-- the places of some edges, in order -/
def plc (es : List Ed) (sm : List (Fin es.length)) (N : Nat) : List Nat := (List.range N).filter fun x => decide (x ∈ (sm.map fun k => (ed es k).s) ++ sm.map fun k => (ed es k).t)
structure Good (es : List Ed) (N : Nat) : Prop where
  s : ∀ k : Fin es.length, (ed es k).s < N
  t : ∀ k : Fin es.length, (ed es k).t < N
theorem Good.prs {es : List Ed} {N : Nat} (h : Good es N) (sm : List (Fin es.length)) : ∀ q ∈ prs es sm, q.2 < N := fun q hq => by
  obtain ⟨k, _, rfl⟩ := List.mem_map.mp hq
  exact h.t k
theorem Good.prt {es : List Ed} {N : Nat} (h : Good es N) (sm : List (Fin es.length)) : ∀ q ∈ prt es sm, q.2 < N := fun q hq => by
  obtain ⟨k, _, rfl⟩ := List.mem_map.mp hq
  exact h.s k
theorem plc_mem {es : List Ed} {sm : List (Fin es.length)} {N : Nat} (h : Good es N) {x : Nat} : x ∈ (sm.map fun k => (ed es k).s) ++ (sm.map fun k => (ed es k).t) ↔ x ∈ plc es sm N := by
  unfold plc
  rw [List.mem_filter, List.mem_range, decide_eq_true_eq]
  refine ⟨fun hx => ⟨?_, hx⟩, fun hx => hx.2⟩
  rcases List.mem_append.mp hx with z | z
  · obtain ⟨k, _, rfl⟩ := List.mem_map.mp z
    exact h.s k
  · obtain ⟨k, _, rfl⟩ := List.mem_map.mp z
    exact h.t k
theorem plc_sorted (es : List Ed) (sm : List (Fin es.length)) (N : Nat) : (plc es sm N).Pairwise (· < ·) := List.Pairwise.filter _ List.pairwise_lt_range
theorem e2 (k : Nat) (es : List Ed) (sm : List (Fin es.length)) (S : D) (N : Nat) (hS : itemsOf S = some (sm.map fI)) (hs : sm.length ≤ 20) (h : Good es N) : cf (k + 1) 2 [.v (.tup (es.map eD)), .v S] = .ok (.v (.tup ((plc es sm N).map nI))) [] := by
  have h1 : sm.length ≤ 100000 := by omega
  have h2 : sm.length + sm.length ≤ 100000 := by omega
  have h3 := (sset_nI (xs := (sm.map fun k => (ed es k).s) ++ (sm.map fun k => (ed es k).t)) (m := plc es sm N) (by simp; omega) (plc_sorted _ _ _) fun x => plc_mem h).1
  rw [List.map_append, List.map_map, List.map_map] at h3
  have c1 : pv (Ko k) C_places_of_1 [some (.v (.tup (es.map eD))), some (.v S), none] = some (.l (sm.map (nI ∘ fun k => (ed es k).s))) := by
    refine pv_mapc (qs := [S]) fI _ (by simp!) (by simp!) (by rw [walk_val, hS]) h1 fun k _ => ?_
    simp! [fI]
    rfl
  have c2 : pv (Ko k) C_places_of_2 [some (.v (.tup (es.map eD))), some (.v S), none] = some (.l (sm.map (nI ∘ fun k => (ed es k).t))) := by
    refine pv_mapc (qs := [S]) fI _ (by simp!) (by simp!) (by rw [walk_val, hS]) h1 fun k _ => ?_
    simp! [fI]
    rfl
  rw [d2 _ _ rfl]
  simp! [-uC_places_of_1, -uC_places_of_2, c1, c2, h2, h3]
end Tk06
end
section
/-! K06f: rings_of. -/
namespace Tk06
open Pv Pu
local macro_rules
  | `(tactic| simp! $[$l:location]?) => `(tactic| simp (maxDischargeDepth := 12) [-Option.bind_some, ob_some, Pv.get, Op.keeps, fetchs, fetch, opD, o_tup, o_lst, o_add, o_sub, o_mul, o_fdiv, o_mod, o_pow, o_neg, o_eq, o_ne, o_lt, o_gt, o_le, o_ge, o_in_, o_nin, o_isN, o_isnN, o_sl, o_len, o_abs, o_max, o_min, o_tupleOf, o_listOf, o_intOf, o_isi, o_get, o_get2, bounds, slD, dlook, flatD, keyOk, backs, ioFits, assigns, forget, T.slots, T.slotss, noOwn, frzSlot, sets, argsOf, iosOf, noDup, putBacks, setAt, putIx, subL, slotsG, isElt] $[$l]?)
  | `(tactic| simp! [$as,*] $[$l:location]?) => `(tactic| simp (maxDischargeDepth := 12) [-Option.bind_some, ob_some, Pv.get, Op.keeps, fetchs, fetch, opD, o_tup, o_lst, o_add, o_sub, o_mul, o_fdiv, o_mod, o_pow, o_neg, o_eq, o_ne, o_lt, o_gt, o_le, o_ge, o_in_, o_nin, o_isN, o_isnN, o_sl, o_len, o_abs, o_max, o_min, o_tupleOf, o_listOf, o_intOf, o_isi, o_get, o_get2, bounds, slD, dlook, flatD, keyOk, backs, ioFits, assigns, forget, T.slots, T.slotss, noOwn, frzSlot, sets, argsOf, iosOf, noDup, putBacks, setAt, putIx, subL, slotsG, isElt, $as,*] $[$l]?)

def rowN (v : List Nat) : D := .tup (v.map nI)
noncomputable def Bh (es : List Ed) (sm : List (Fin es.length)) (N x : Nat) : List Nat := RL (prs es sm) [x] N
noncomputable def bD (es : List Ed) (sm : List (Fin es.length)) (N : Nat) (xs : List Nat) : List (D × D) := kvG nI rowN (xs.map fun x => (x, Bh es sm N x))
theorem bD_look {es : List Ed} {sm : List (Fin es.length)} {N : Nat} {xs : List Nat} (hd : xs.Nodup) {x : Nat} (h : x ∈ xs) : mlook (bD es sm N xs) (.int (x : Int)) = some (rowN (Bh es sm N x)) := by
  have h1 := mlook_kvG keyI rowN (xs.map fun x => (x, Bh es sm N x)) x
  have h2 := lkG_at (l := xs.map fun x => (x, Bh es sm N x)) (by rw [List.map_map]; show (xs.map fun x => x).Nodup; simpa using hd) (List.mem_map.mpr ⟨x, h, rfl⟩)
  simp only at h2
  rw [h2] at h1
  exact h1
@[simp] theorem rowN_kind (v : List Nat) : kind (rowN v) = 4 := rfl
@[simp] theorem in_rowN (i : Nat) (v : List Nat) : o_in_ [.int (i : Int), rowN v] = some (.v (.bl (decide (i ∈ v)))) := by
  unfold rowN
  simp [o_in_]
@[simp] theorem nin_rowN (i : Nat) (v : List Nat) : o_nin [.int (i : Int), rowN v] = some (.v (.bl (!decide (i ∈ v)))) := by
  unfold rowN
  simp [o_nin]
theorem plc_nodup (es : List Ed) (sm : List (Fin es.length)) (N : Nat) : (plc es sm N).Nodup := (plc_sorted es sm N).imp fun h => Nat.ne_of_lt h
theorem plc_s {es : List Ed} {sm : List (Fin es.length)} {N : Nat} (h : Good es N) {k : Fin es.length} (hk : k ∈ sm) : (ed es k).s ∈ plc es sm N := (plc_mem h).mp (List.mem_append_left _ (List.mem_map.mpr ⟨k, hk, rfl⟩))
theorem plc_t {es : List Ed} {sm : List (Fin es.length)} {N : Nat} (h : Good es N) {k : Fin es.length} (hk : k ∈ sm) : (ed es k).t ∈ plc es sm N := (plc_mem h).mp (List.mem_append_right _ (List.mem_map.mpr ⟨k, hk, rfl⟩))
theorem e4 (k : Nat) (e : Ed) (B : List (D × D)) (p : Nat) (bp bt : List Nat) (h1 : mlook B (.int (p : Int)) = some (rowN bp)) (h2 : mlook B (.int (e.t : Int)) = some (rowN bt)) :
    cf (k + 1) 4 [.v (eD e), .v (.dic B), .v (.int (p : Int))] = .ok (.v (.bl (decide (e.s ∈ bp) && decide (p ∈ bt)))) [] := by
  rw [d4 _ _ rfl]
  simp! [h1, h2, -o_in_]
/-- the rings of one edge -/
noncomputable def owF (es : List Ed) (sm : List (Fin es.length)) (N : Nat) (k : Fin es.length) : List (Fin es.length) := sm.filter fun n => decide ((ed es n).s ∈ Bh es sm N (ed es k).s) && decide ((ed es k).s ∈ Bh es sm N (ed es n).t)
def insN (m : List Nat) (n : Nat) : List Nat := if n ∈ m then m else m ++ [n]
noncomputable def stP (es : List Ed) (sm : List (Fin es.length)) (N : Nat) (b : List (List Nat) × List Nat) (k : Fin es.length) : List (List Nat) × List Nat :=
  if k.1 ∉ b.2 ∧ (ed es k).s ∈ Bh es sm N (ed es k).t then (b.1 ++ [(owF es sm N k).map Fin.val], ((owF es sm N k).map Fin.val).foldl insN b.2) else b
theorem fD_put' (m : List Nat) (n : Nat) : mput (fD m) (.int (n : Int)) (.bl true) = fD (insN m n) := by
  unfold insN
  by_cases h : n ∈ m
  · rw [if_pos h]
    have := mput_kvG keyI D.bl (m.map fun n => (n, true)) n true
    unfold fD
    rw [show (.int (n : Int) : D) = nI n from rfl, this, putG, if_pos (by simpa using h), List.map_map]
    congr 1
    refine List.map_congr_left fun x _ => ?_
    simp only [Function.comp]
    split <;> rfl
  · rw [if_neg h, fD_put _ _ h]
theorem insN_len (l m : List Nat) : (l.foldl insN m).length ≤ m.length + l.length := by
  induction l generalizing m with
  | nil => simp
  | cons a l ih =>
    have := ih (insN m a)
    have h : (insN m a).length ≤ m.length + 1 := by unfold insN; split <;> simp
    simp only [List.foldl_cons, List.length_cons]
    omega
section
variable {es : List Ed} {sm : List (Fin es.length)} {S : D} {N : Nat} {s0 s1 s2 s3 s5 s6 s7 : Option R}
theorem met_loop {C : Ctx} (ow m : List Nat) (ho : ow.length ≤ 20) (hm : m.length ≤ 10000) : evS C S_rings_of_10 [s0, s1, s2, s3, some (.m (fD m)), s5, s6, s7, some (.v (.tup (ow.map nI))), none, none] = .next [s0, s1, s2, s3, some (.m (fD (ow.foldl insN m))), s5, s6, s7, some (.v (.tup (ow.map nI))), none, none] := by
  have hL := (forL_foldN (body := rnd C (.v 9) B_rings_of_9 [9]) (fun m : List Nat => [s0, s1, s2, s3, some (.m (fD m)), s5, s6, s7, some (.v (.tup (ow.map nI))), none, none]) insN (fun n b => b.length ≤ m.length + n) nI (l := ow) (b := m) (n := 0) (by omega) fun i a ha b hb => by
    have hi : i < ow.length := (List.getElem?_eq_some_iff.mp ha).1
    have h1 : (fD b).length ≤ 100000 := by rw [fD_len]; omega
    have h2 : (insN b a).length ≤ b.length + 1 := by unfold insN; split <;> simp
    refine ⟨.inl ?_, by omega⟩
    simp! [nI, fD_put', h1]).1
  simp! [evS_forK, -uB_rings_of_9, hL]
/-- behind, owned or frozen -/
noncomputable def bR (es : List Ed) (sm : List (Fin es.length)) (N : Nat) (q : Bool) : R := if q then .v (.dic (bD es sm N (plc es sm N))) else .m (bD es sm N (plc es sm N))
theorem own_turn {k : Nat} {q : Bool} {e n : Fin es.length} {acc : List D} {s3 s4 s5 s7 s8 : Option R} (hG : Good es N) (he : e ∈ sm) (hn : n ∈ sm) (ha : acc.length ≤ 1000) :
    turn1 (Ko (k + 1)) [9] (.v 9) (.cons (.call 4 (.cons (.op .ix (.cons (.v 0) (.cons (.v 9) .nil))) (.cons (.v 2) (.cons (.v 6) .nil)))) .nil) (.elt (.v 9)) (fI n) [some (.v (.tup (es.map eD))), some (.v S), some (bR es sm N q), s3, s4, s5, some (.v (.int ((ed es e).s : Int))), s7, s8, none, none] acc =
      .ok (acc ++ if (decide ((ed es n).s ∈ Bh es sm N (ed es e).s) && decide ((ed es e).s ∈ Bh es sm N (ed es n).t)) = true then [fI n] else []) [some (.v (.tup (es.map eD))), some (.v S), some (bR es sm N true), s3, s4, s5, some (.v (.int ((ed es e).s : Int))), s7, s8, none, none] := by
  have hls := bD_look (es := es) (sm := sm) (N := N) (plc_nodup es sm N) (plc_s hG he)
  have hlt := bD_look (es := es) (sm := sm) (N := N) (plc_nodup es sm N) (plc_t hG hn)
  have h4 := e4 k (ed es n) (bD es sm N (plc es sm N)) (ed es e).s (Bh es sm N (ed es e).s) (Bh es sm N (ed es n).t) hls hlt
  have ha' : acc.length ≤ 100000 := by omega
  have hed : es[(n : Nat)] = ed es n := rfl
  rw [turn1_eq]
  generalize (decide ((ed es n).s ∈ Bh es sm N (ed es e).s) && decide ((ed es e).s ∈ Bh es sm N (ed es n).t)) = c at h4 ⊢
  cases q <;> cases c <;> simp! [bR, fI, h4, ha', hed]
theorem own_comp {k : Nat} {q : Bool} {e : Fin es.length} {s3 s4 s5 s7 s8 : Option R} (hG : Good es N) (hS : itemsOf S = some (sm.map fI)) (hs : sm.length ≤ 20) (he : e ∈ sm) :
    ev (Ko (k + 1)) C_rings_of_6 [some (.v (.tup (es.map eD))), some (.v S), some (bR es sm N q), s3, s4, s5, some (.v (.int ((ed es e).s : Int))), s7, s8, none, none] = .ok (.l ((owF es sm N e).map fI)) [some (.v (.tup (es.map eD))), some (.v S), some (bR es sm N true), s3, s4, s5, some (.v (.int ((ed es e).s : Int))), s7, s8, none, none] := by
  have hgo : ∀ (l : List (Fin es.length)) (acc : List D) (q : Bool), (∀ n ∈ l, n ∈ sm) → acc.length + l.length ≤ 900 → (q = true ∨ l ≠ []) → compL (turn1 (Ko (k + 1)) [9] (.v 9) (.cons (.call 4 (.cons (.op .ix (.cons (.v 0) (.cons (.v 9) .nil))) (.cons (.v 2) (.cons (.v 6) .nil)))) .nil) (.elt (.v 9))) (l.map fI) [some (.v (.tup (es.map eD))), some (.v S), some (bR es sm N q), s3, s4, s5, some (.v (.int ((ed es e).s : Int))), s7, s8, none, none] acc =
      .ok (acc ++ (l.filter fun n => decide ((ed es n).s ∈ Bh es sm N (ed es e).s) && decide ((ed es e).s ∈ Bh es sm N (ed es n).t)).map fI) [some (.v (.tup (es.map eD))), some (.v S), some (bR es sm N true), s3, s4, s5, some (.v (.int ((ed es e).s : Int))), s7, s8, none, none] := by
    intro l
    induction l with
    | nil =>
      intro acc q _ _ hq
      rcases hq with rfl | hq
      · simp
      · exact absurd rfl hq
    | cons n l ih =>
      intro acc q hl hacc _
      rw [List.length_cons] at hacc
      rw [List.map_cons, compL_cons, own_turn hG he (hl n List.mem_cons_self) (by omega)]
      simp only [outb_ok]
      rw [ih _ true (fun n hn => hl n (List.mem_cons_of_mem _ hn)) (by rw [List.length_append]; split <;> simp <;> omega) (.inl rfl), List.filter_cons]
      split <;> simp
  have hne : sm ≠ [] := fun z => by rw [z] at he; cases he
  have h1 := hgo sm [] q (fun _ h => h) (by simp; omega) (.inr hne)
  rw [List.nil_append] at h1
  have hd : evDs (Ko (k + 1)) (.cons (.v 1) .nil) [some (.v (.tup (es.map eD))), some (.v S), some (bR es sm N q), s3, s4, s5, some (.v (.int ((ed es e).s : Int))), s7, s8, none, none] = .ok [S] [some (.v (.tup (es.map eD))), some (.v S), some (bR es sm N q), s3, s4, s5, some (.v (.int ((ed es e).s : Int))), s7, s8, none, none] := by simp!
  rw [uC_rings_of_6, ev_compK, hd, outb_ok, kComp_eq]
  have hno : noOwn [some (.v (.tup (es.map eD))), some (.v S), some (bR es sm N q), s3, s4, s5, some (.v (.int ((ed es e).s : Int))), s7, s8, none, none] [9] = true := by simp!
  have hf : forget [9] [some (.v (.tup (es.map eD))), some (.v S), some (bR es sm N q), s3, s4, s5, some (.v (.int ((ed es e).s : Int))), s7, s8, none, none] = [some (.v (.tup (es.map eD))), some (.v S), some (bR es sm N q), s3, s4, s5, some (.v (.int ((ed es e).s : Int))), s7, s8, none, none] := by simp!
  rw [hno, if_pos rfl, walk_val, hS]
  simp only
  rw [hf, h1, outb_ok, kOut_eq]
  simp! [restore, owF]
end
end Tk06
end
section
/-! K06g: rings_of, further. -/
namespace Tk06
open Pv Pu
local macro_rules
  | `(tactic| simp! $[$l:location]?) => `(tactic| simp (maxDischargeDepth := 12) [-Option.bind_some, ob_some, Pv.get, Op.keeps, fetchs, fetch, opD, o_tup, o_lst, o_add, o_sub, o_mul, o_fdiv, o_mod, o_pow, o_neg, o_eq, o_ne, o_lt, o_gt, o_le, o_ge, o_in_, o_nin, o_isN, o_isnN, o_sl, o_len, o_abs, o_max, o_min, o_tupleOf, o_listOf, o_intOf, o_isi, o_get, o_get2, bounds, slD, dlook, flatD, keyOk, backs, ioFits, assigns, forget, T.slots, T.slotss, noOwn, frzSlot, sets, argsOf, iosOf, noDup, putBacks, setAt, putIx, subL, slotsG, isElt] $[$l]?)
  | `(tactic| simp! [$as,*] $[$l:location]?) => `(tactic| simp (maxDischargeDepth := 12) [-Option.bind_some, ob_some, Pv.get, Op.keeps, fetchs, fetch, opD, o_tup, o_lst, o_add, o_sub, o_mul, o_fdiv, o_mod, o_pow, o_neg, o_eq, o_ne, o_lt, o_gt, o_le, o_ge, o_in_, o_nin, o_isN, o_isnN, o_sl, o_len, o_abs, o_max, o_min, o_tupleOf, o_listOf, o_intOf, o_isi, o_get, o_get2, bounds, slD, dlook, flatD, keyOk, backs, ioFits, assigns, forget, T.slots, T.slotss, noOwn, frzSlot, sets, argsOf, iosOf, noDup, putBacks, setAt, putIx, subL, slotsG, isElt, $as,*] $[$l]?)

theorem fI_nI {es : List Ed} (l : List (Fin es.length)) : l.map fI = (l.map Fin.val).map nI := by rw [List.map_map]; rfl
section
variable {es : List Ed} {sm : List (Fin es.length)} {S : D} {N : Nat}
noncomputable def eR (es : List Ed) (sm : List (Fin es.length)) (S : D) (N : Nat) (x : (List (List Nat) × List Nat) × Bool) : Env := [some (.v (.tup (es.map eD))), some (.v S), some (bR es sm N x.2), some (.l (x.1.1.map rowN)), some (.m (fD x.1.2)), none, none, none, none, none, none]
noncomputable def stR (es : List Ed) (sm : List (Fin es.length)) (N : Nat) (x : (List (List Nat) × List Nat) × Bool) (e : Fin es.length) : (List (List Nat) × List Nat) × Bool := (stP es sm N x.1 e, x.2 || decide (e.1 ∉ x.1.2 ∧ (ed es e).s ∈ Bh es sm N (ed es e).t))
theorem ring_step {k : Nat} {x : (List (List Nat) × List Nat) × Bool} {e : Fin es.length} (hG : Good es N) (hS : itemsOf S = some (sm.map fI)) (hs : sm.length ≤ 20) (he : e ∈ sm) (h1 : x.1.1.length ≤ 1000) (h2 : x.1.2.length ≤ 1000) :
    rnd (Ko (k + 1)) (.v 5) B_rings_of_14 [5, 6, 7, 8, 9] (fI e) (eR es sm S N x) = .next (eR es sm S N (stR es sm N x e)) := by
  obtain ⟨⟨f, m⟩, q⟩ := x
  simp only at h1 h2
  have hls := bD_look (es := es) (sm := sm) (N := N) (plc_nodup es sm N) (plc_s hG he)
  have hlt := bD_look (es := es) (sm := sm) (N := N) (plc_nodup es sm N) (plc_t hG he)
  have hed : es[(e : Nat)] = ed es e := rfl
  have a1 : evS (Ko (k + 1)) S_rings_of_4 [some (.v (.tup (es.map eD))), some (.v S), some (bR es sm N q), some (.l (f.map rowN)), some (.m (fD m)), some (.v (fI e)), none, none, none, none, none] = .next [some (.v (.tup (es.map eD))), some (.v S), some (bR es sm N q), some (.l (f.map rowN)), some (.m (fD m)), some (.v (fI e)), some (.v (.int ((ed es e).s : Int))), some (.v (.int ((ed es e).t : Int))), none, none, none] := by
    simp! [fI, hed]
  have a2 : evT (Ko (k + 1)) Q_rings_of_5 [some (.v (.tup (es.map eD))), some (.v S), some (bR es sm N q), some (.l (f.map rowN)), some (.m (fD m)), some (.v (fI e)), some (.v (.int ((ed es e).s : Int))), some (.v (.int ((ed es e).t : Int))), none, none, none] = .ok (decide (e.1 ∉ m ∧ (ed es e).s ∈ Bh es sm N (ed es e).t)) [some (.v (.tup (es.map eD))), some (.v S), some (bR es sm N q), some (.l (f.map rowN)), some (.m (fD m)), some (.v (fI e)), some (.v (.int ((ed es e).s : Int))), some (.v (.int ((ed es e).t : Int))), none, none, none] := by
    by_cases c1 : e.1 ∈ m <;> by_cases c2 : (ed es e).s ∈ Bh es sm N (ed es e).t <;> cases q <;> simp! [bR, fI, hlt, fD_has, c1, c2, -o_in_]
  have h3 : (owF es sm N e).length ≤ 20 := Nat.le_trans (List.length_filter_le _ _) hs
  by_cases hc : e.1 ∉ m ∧ (ed es e).s ∈ Bh es sm N (ed es e).t
  · rw [decide_eq_true hc] at a2
    have a3 : evS (Ko (k + 1)) S_rings_of_7 [some (.v (.tup (es.map eD))), some (.v S), some (bR es sm N q), some (.l (f.map rowN)), some (.m (fD m)), some (.v (fI e)), some (.v (.int ((ed es e).s : Int))), some (.v (.int ((ed es e).t : Int))), none, none, none] = .next [some (.v (.tup (es.map eD))), some (.v S), some (bR es sm N true), some (.l (f.map rowN)), some (.m (fD m)), some (.v (fI e)), some (.v (.int ((ed es e).s : Int))), some (.v (.int ((ed es e).t : Int))), some (.v (.tup (((owF es sm N e).map Fin.val).map nI))), none, none] := by
      have h := own_comp (k := k) (q := q) (S := S) (s3 := some (.l (f.map rowN))) (s4 := some (.m (fD m))) (s5 := some (.v (fI e))) (s7 := some (.v (.int ((ed es e).t : Int)))) (s8 := none) hG hS hs he
      rw [← fI_nI]
      generalize hq : C_rings_of_6 = cq at h
      have hv : ∀ i, (cq = E.v i) = False := fun i => eq_false (by rw [← hq]; nofun)
      have hu : S_rings_of_7 = .asg (.v 8) (.op .tupleOf (.cons cq .nil)) := by rw [← hq]; rfl
      have hp : isOk (pv (Ko (k + 1)) cq [some (.v (.tup (es.map eD))), some (.v S), some (bR es sm N q), some (.l (f.map rowN)), some (.m (fD m)), some (.v (fI e)), some (.v (.int ((ed es e).s : Int))), some (.v (.int ((ed es e).t : Int))), none, none, none]) ∨ True := .inr trivial
      rw [hu, evS_asg, ev_op]
      simp only [Op.keeps, Bool.false_eq_true, if_false]
      rw [evPs_cons _ _ _ (fun i z => by have := hv i; rw [z] at this; simp at this), h, outb_ok]
      simp!
    have hlen : (((owF es sm N e).map Fin.val)).length ≤ 20 := by simpa using h3
    have a4 := met_loop (C := Ko (k + 1)) (s0 := some (.v (.tup (es.map eD)))) (s1 := some (.v S)) (s2 := some (bR es sm N true)) (s3 := some (.l (f.map rowN))) (s5 := some (.v (fI e))) (s6 := some (.v (.int ((ed es e).s : Int)))) (s7 := some (.v (.int ((ed es e).t : Int)))) ((owF es sm N e).map Fin.val) m hlen (by omega)
    have a5 : evS (Ko (k + 1)) S_rings_of_11 [some (.v (.tup (es.map eD))), some (.v S), some (bR es sm N true), some (.l (f.map rowN)), some (.m (fD (((owF es sm N e).map Fin.val).foldl insN m))), some (.v (fI e)), some (.v (.int ((ed es e).s : Int))), some (.v (.int ((ed es e).t : Int))), some (.v (.tup (((owF es sm N e).map Fin.val).map nI))), none, none] =
        .next [some (.v (.tup (es.map eD))), some (.v S), some (bR es sm N true), some (.l ((f ++ [(owF es sm N e).map Fin.val]).map rowN)), some (.m (fD (((owF es sm N e).map Fin.val).foldl insN m))), some (.v (fI e)), some (.v (.int ((ed es e).s : Int))), some (.v (.int ((ed es e).t : Int))), some (.v (.tup (((owF es sm N e).map Fin.val).map nI))), none, none] := by
      have h5 : f.length ≤ 100000 := by omega
      generalize (owF es sm N e).map Fin.val = O
      simp! [h5, rowN]
    have hb := evSs_next a1 (evSs_next (ife_t (y := .nil) a2 (evSs_next a3 (evSs_next a4 (evSs_next a5 evSs_nil')))) evSs_nil')
    have hst : stR es sm N ((f, m), q) e = ((f ++ [(owF es sm N e).map Fin.val], ((owF es sm N e).map Fin.val).foldl insN m), true) := by
      simp [stR, stP, hc]
    rw [hst, rnd_eq]
    have hasg : assign (.v 5) (.v (fI e)) (eR es sm S N ((f, m), q)) = some [some (.v (.tup (es.map eD))), some (.v S), some (bR es sm N q), some (.l (f.map rowN)), some (.m (fD m)), some (.v (fI e)), none, none, none, none, none] := by simp! [eR]
    rw [hasg, toFl_some, flb_next, kBody_eq]
    have hB : B_rings_of_14 = .cons S_rings_of_4 (.cons (.ife Q_rings_of_5 (.cons S_rings_of_7 (.cons S_rings_of_10 (.cons S_rings_of_11 .nil))) .nil) .nil) := rfl
    rw [hB, hb, kilF_next]
    simp! [eR]
  · rw [decide_eq_false hc] at a2
    have hb := evSs_next a1 (evSs_next (ife_f (x := .cons S_rings_of_7 (.cons S_rings_of_10 (.cons S_rings_of_11 .nil))) (y := .nil) a2 evSs_nil') evSs_nil')
    have hst : stR es sm N ((f, m), q) e = ((f, m), q) := by
      simp only [stR, stP, if_neg hc, decide_eq_false hc, Bool.or_false]
    rw [hst, rnd_eq]
    have hasg : assign (.v 5) (.v (fI e)) (eR es sm S N ((f, m), q)) = some [some (.v (.tup (es.map eD))), some (.v S), some (bR es sm N q), some (.l (f.map rowN)), some (.m (fD m)), some (.v (fI e)), none, none, none, none, none] := by simp! [eR]
    rw [hasg, toFl_some, flb_next, kBody_eq]
    have hB : B_rings_of_14 = .cons S_rings_of_4 (.cons (.ife Q_rings_of_5 (.cons S_rings_of_7 (.cons S_rings_of_10 (.cons S_rings_of_11 .nil))) .nil) .nil) := rfl
    rw [hB, hb, kilF_next]
    simp! [eR]
end
end Tk06
end
section
/-! K06h: rings_of, whole; off_rings, is_on_ring, entries_of. -/
namespace Tk06
open Pv Pu
local macro_rules
  | `(tactic| simp! $[$l:location]?) => `(tactic| simp (maxDischargeDepth := 12) [-Option.bind_some, ob_some, Pv.get, Op.keeps, fetchs, fetch, opD, o_tup, o_lst, o_add, o_sub, o_mul, o_fdiv, o_mod, o_pow, o_neg, o_eq, o_ne, o_lt, o_gt, o_le, o_ge, o_in_, o_nin, o_isN, o_isnN, o_sl, o_len, o_abs, o_max, o_min, o_tupleOf, o_listOf, o_intOf, o_isi, o_get, o_get2, bounds, slD, dlook, flatD, keyOk, backs, ioFits, assigns, forget, T.slots, T.slotss, noOwn, frzSlot, sets, argsOf, iosOf, noDup, putBacks, setAt, putIx, subL, slotsG, isElt] $[$l]?)
  | `(tactic| simp! [$as,*] $[$l:location]?) => `(tactic| simp (maxDischargeDepth := 12) [-Option.bind_some, ob_some, Pv.get, Op.keeps, fetchs, fetch, opD, o_tup, o_lst, o_add, o_sub, o_mul, o_fdiv, o_mod, o_pow, o_neg, o_eq, o_ne, o_lt, o_gt, o_le, o_ge, o_in_, o_nin, o_isN, o_isnN, o_sl, o_len, o_abs, o_max, o_min, o_tupleOf, o_listOf, o_intOf, o_isi, o_get, o_get2, bounds, slD, dlook, flatD, keyOk, backs, ioFits, assigns, forget, T.slots, T.slotss, noOwn, frzSlot, sets, argsOf, iosOf, noDup, putBacks, setAt, putIx, subL, slotsG, isElt, $as,*] $[$l]?)

def intsL (r : List Nat) : List Int := r.map fun (n : Nat) => (n : Int)
def srt (f : List (List Nat)) : List D := (sortR (f.map intsL)).map rowD
theorem toRows_N : ∀ {f : List (List Nat)}, (∀ r ∈ f, r ≠ []) → toRows (f.map rowN) = some (f.map intsL)
  | [], _ => rfl
  | r :: f, h => by
    have h1 := h r List.mem_cons_self
    have h2 : (intsL r).isEmpty = false := by cases r with | nil => exact absurd rfl h1 | cons => rfl
    rw [List.map_cons, show rowN r = .tup (r.map nI) from rfl, toRows, toInts_nI]
    simp only [Option.bind_some]
    rw [show (r.map fun (n : Nat) => (n : Int)) = intsL r from rfl, h2, toRows_N fun r hr => h r (List.mem_cons_of_mem _ hr)]
    rfl
theorem sorted_rows {f : List (List Nat)} (h : ∀ r ∈ f, r ≠ []) (hl : f.length < 100000) : o_sorted [.lst (f.map rowN)] = some (.l (srt f)) := by
  cases f with
  | nil => rfl
  | cons r f =>
    have e : sortD ((r :: f).map rowN) = none := rfl
    simp only [o_sorted, e, List.length_map, hl, if_true, toRows_N h, Option.map_some]
    rfl
/-- the rings that are found -/
noncomputable def fnd (es : List Ed) (sm : List (Fin es.length)) (N : Nat) : List (List Nat) := (sm.foldl (stP es sm N) ([], [])).1
theorem fold_stR (es : List Ed) (sm : List (Fin es.length)) (N : Nat) : ∀ (l : List (Fin es.length)) (x : (List (List Nat) × List Nat) × Bool), (l.foldl (stR es sm N) x).1 = l.foldl (stP es sm N) x.1
  | [], x => rfl
  | e :: l, x => fold_stR es sm N l _
theorem Bh_refl {es : List Ed} {sm : List (Fin es.length)} {N x : Nat} (h : x < N) : x ∈ Bh es sm N x := RL_mem.mpr ⟨h, Reach.refl x⟩
theorem Bh_iff {es : List Ed} {sm : List (Fin es.length)} {N a x : Nat} (hG : Good es N) (h : a < N) : x ∈ Bh es sm N a ↔ Reach (prs es sm) [a] x := RL_bound (hG.prs sm) (by simpa using h)
theorem ow_self {es : List Ed} {sm : List (Fin es.length)} {N : Nat} {e : Fin es.length} (hG : Good es N) (he : e ∈ sm) (hc : (ed es e).s ∈ Bh es sm N (ed es e).t) : e ∈ owF es sm N e := List.mem_filter.mpr ⟨he, by simp [Bh_refl (hG.s e), hc]⟩
theorem stP_ne {es : List Ed} {sm : List (Fin es.length)} {N : Nat} (hG : Good es N) : ∀ (l : List (Fin es.length)) (b : List (List Nat) × List Nat), (∀ e ∈ l, e ∈ sm) → (∀ r ∈ b.1, r ≠ []) → ∀ r ∈ (l.foldl (stP es sm N) b).1, r ≠ []
  | [], b, _, hb => hb
  | e :: l, b, hl, hb => by
    rw [List.foldl_cons]
    refine stP_ne hG l _ (fun e he => hl e (List.mem_cons_of_mem _ he)) fun r hr => ?_
    unfold stP at hr
    split at hr
    · rename_i hc
      rcases List.mem_append.mp hr with z | z
      · exact hb r z
      · rw [List.mem_singleton.mp z]
        have := ow_self hG (hl e List.mem_cons_self) hc.2
        intro z
        have : e.1 ∈ (owF es sm N e).map Fin.val := List.mem_map.mpr ⟨e, this, rfl⟩
        rw [z] at this
        cases this
    · exact hb r hr
theorem stP_len {es : List Ed} {sm : List (Fin es.length)} {N : Nat} (b : List (List Nat) × List Nat) (e : Fin es.length) : (stP es sm N b e).1.length ≤ b.1.length + 1 ∧ (stP es sm N b e).2.length ≤ b.2.length + sm.length := by
  unfold stP
  split
  · have h1 := insN_len ((owF es sm N e).map Fin.val) b.2
    have h2 : (owF es sm N e).length ≤ sm.length := List.length_filter_le _ _
    simp at h1 ⊢
    omega
  · omega
theorem fnd_len (es : List Ed) (sm : List (Fin es.length)) (N : Nat) : (fnd es sm N).length ≤ sm.length := by
  have : ∀ (l : List (Fin es.length)) (b : List (List Nat) × List Nat), (l.foldl (stP es sm N) b).1.length ≤ b.1.length + l.length := by
    intro l
    induction l with
    | nil => intro b; simp
    | cons e l ih =>
      intro b
      have h1 := ih (stP es sm N b e)
      have h2 := (stP_len (es := es) (sm := sm) (N := N) b e).1
      simp only [List.foldl_cons, List.length_cons]
      omega
  simpa [fnd] using this sm ([], [])
theorem e3 (k : Nat) (es : List Ed) (sm : List (Fin es.length)) (S : D) (N : Nat) (hS : itemsOf S = some (sm.map fI)) (hN : N ≤ 20) (hs : sm.length ≤ 20) (hG : Good es N) : cf (k + 2) 3 [.v (.tup (es.map eD)), .v S] = .ok (.v (.tup (srt (fnd es sm N)))) [] := by
  have hL := (forL_foldN (body := rnd (Ko (k + 1)) (.v 5) B_rings_of_14 [5, 6, 7, 8, 9]) (eR es sm S N) (stR es sm N) (fun n x => x.1.1.length ≤ n ∧ x.1.2.length ≤ n * 20) fI (l := sm) (b := (([], []), false)) (n := 0) (by simp) fun i e he x hx => by
    have hi : i < sm.length := (List.getElem?_eq_some_iff.mp he).1
    have h3 := stP_len (es := es) (sm := sm) (N := N) x.1 e
    refine ⟨.inl (ring_step hG hS hs (List.mem_of_getElem? he) (by omega) (by omega)), ?_, ?_⟩
    · have := h3.1
      simp only [stR]
      omega
    · have := h3.2
      simp only [stR]
      omega).1
  have hf := fold_stR es sm N sm (([], []), false)
  generalize sm.foldl (stR es sm N) (([], []), false) = X at hL hf
  have hr := sorted_rows (f := fnd es sm N) (stP_ne hG sm ([], []) (fun _ h => h) (by simp)) (by have := fnd_len es sm N; omega)
  have hpl := e2 k es sm S N hS hs hG
  have h0 : ∀ x ∈ plc es sm N, cf (k + 1) 0 [.v (.tup (es.map eD)), .v S, .v (.tup [nI x])] = .ok (.v (rowN (Bh es sm N x))) [] := fun x hx => e0 k es sm S [x] N hS hN hs (hG.prs sm) (by
    have := (List.mem_filter.mp hx).1
    simpa using this) (by simp)
  have hpll : (plc es sm N).length ≤ 100000 := by
    have : (plc es sm N).length ≤ (List.range N).length := List.length_filter_le _ _
    simp at this
    omega
  have c1 : pv (Ko (k + 1)) C_rings_of_1 [some (.v (.tup (es.map eD))), some (.v S), none, none, none, none, none, none, none, none, none] = some (.l ((plc es sm N).map fun x => .tup [nI x, rowN (Bh es sm N x)])) := by
    refine pv_mapc (qs := [.tup ((plc es sm N).map nI)]) nI _ (by simp!) (by simp! [hpl]) (by simp!) hpll fun x hx => ?_
    simp! [h0 x hx]
  have hd := dict_kvG keyI rowN (l := (plc es sm N).map fun x => (x, Bh es sm N x)) (by rw [List.map_map]; show ((plc es sm N).map fun x => x).Nodup; simpa using plc_nodup es sm N)
  rw [List.map_map] at hd
  have hd' : o_dictOf [.lst ((plc es sm N).map fun x => .tup [nI x, rowN (Bh es sm N x)])] = some (.m (bD es sm N (plc es sm N))) := hd
  have a1 : evS (Ko (k + 1)) S_rings_of_2 [some (.v (.tup (es.map eD))), some (.v S), none, none, none, none, none, none, none, none, none] = .next [some (.v (.tup (es.map eD))), some (.v S), some (.m (bD es sm N (plc es sm N))), none, none, none, none, none, none, none, none] := by
    simp! [-uC_rings_of_1, c1, hd']
  have a2 : evS (Ko (k + 1)) S_rings_of_3 [some (.v (.tup (es.map eD))), some (.v S), some (.m (bD es sm N (plc es sm N))), none, none, none, none, none, none, none, none] = .next (eR es sm S N (([], []), false)) := by
    simp! [eR, bR, fD, o_dic, pairUp, mputs]
  have a3 : evS (Ko (k + 1)) S_rings_of_15 (eR es sm S N (([], []), false)) = .next (eR es sm S N X) := by
    have hd1 : evDs (Ko (k + 1)) (.cons (.v 1) .nil) (eR es sm S N (([], []), false)) = .ok [S] (eR es sm S N (([], []), false)) := by simp! [eR]
    have hfg : forget [5, 6, 7, 8, 9] (eR es sm S N (([], []), false)) = eR es sm S N (([], []), false) := by simp! [eR]
    rw [uS_rings_of_15, evS_forK, hd1, outf_ok, kFor_eq, walk_val, hS, ofO_some, outf_ok, hfg]
    exact hL
  have a4 : evS (Ko (k + 1)) S_rings_of_16 (eR es sm S N X) = .ret (.v (.tup (srt (fnd es sm N)))) (eR es sm S N X) := by
    have hx : X.1.1 = fnd es sm N := by rw [hf]; rfl
    unfold eR
    rw [hx]
    generalize X.1.2 = m
    simp! [hr]
  have e := evSs_next a1 (evSs_next a2 (evSs_next a3 (evSs_ret (ss := .nil) a4)))
  rw [d3 _ _ rfl]
  have e' : ([R.v (.tup (es.map eD)), R.v S].map some ++ List.replicate (11 - 2) none : Env) = [some (.v (.tup (es.map eD))), some (.v S), none, none, none, none, none, none, none, none, none] := rfl
  have hb : b_rings_of = .cons S_rings_of_2 (.cons S_rings_of_3 (.cons S_rings_of_15 (.cons S_rings_of_16 .nil))) := rfl
  rw [e', hb, e]
  rfl
end Tk06
end
section
/-! K06i: off_rings, entries_of, is_on_ring, ruled_by. -/
namespace Tk06
open Pv Pu
local macro_rules
  | `(tactic| simp! $[$l:location]?) => `(tactic| simp (maxDischargeDepth := 12) [-Option.bind_some, ob_some, Pv.get, Op.keeps, fetchs, fetch, opD, o_tup, o_lst, o_add, o_sub, o_mul, o_fdiv, o_mod, o_pow, o_neg, o_eq, o_ne, o_lt, o_gt, o_le, o_ge, o_in_, o_nin, o_isN, o_isnN, o_sl, o_len, o_abs, o_max, o_min, o_tupleOf, o_listOf, o_intOf, o_isi, o_get, o_get2, bounds, slD, dlook, flatD, keyOk, backs, ioFits, assigns, forget, T.slots, T.slotss, noOwn, frzSlot, sets, argsOf, iosOf, noDup, putBacks, setAt, putIx, subL, slotsG, isElt] $[$l]?)
  | `(tactic| simp! [$as,*] $[$l:location]?) => `(tactic| simp (maxDischargeDepth := 12) [-Option.bind_some, ob_some, Pv.get, Op.keeps, fetchs, fetch, opD, o_tup, o_lst, o_add, o_sub, o_mul, o_fdiv, o_mod, o_pow, o_neg, o_eq, o_ne, o_lt, o_gt, o_le, o_ge, o_in_, o_nin, o_isN, o_isnN, o_sl, o_len, o_abs, o_max, o_min, o_tupleOf, o_listOf, o_intOf, o_isi, o_get, o_get2, bounds, slD, dlook, flatD, keyOk, backs, ioFits, assigns, forget, T.slots, T.slotss, noOwn, frzSlot, sets, argsOf, iosOf, noDup, putBacks, setAt, putIx, subL, slotsG, isElt, $as,*] $[$l]?)

@[simp] theorem rowD_kind (v : List Int) : kind (rowD v) = 4 := rfl
theorem eqs_any_int (v : List Int) (i : Int) : ((v.map D.int).any fun x => eqs x (.int i)) = decide (i ∈ v) := by
  rw [any_map']
  simp only [eqs_ii]
  by_cases h : i ∈ v
  · rw [decide_eq_true h]
    exact List.any_eq_true.mpr ⟨i, h, by simp⟩
  · rw [decide_eq_false h]
    refine List.any_eq_false.mpr fun x hx => ?_
    simp
    intro z
    exact h (by rw [← z]; exact hx)
@[simp] theorem in_rowD (i : Int) (v : List Int) : o_in_ [.int i, rowD v] = some (.v (.bl (decide (i ∈ v)))) := by
  have h1 : noDics (v.map D.int) = true := noDics_map D.int v fun _ => rfl
  have h2 : deps (v.map D.int) ≤ 60 := Nat.le_trans (deps_map D.int 0 v fun f => Nat.le_refl _) (by decide)
  unfold rowD
  simp only [o_in_, nd_i, h1, h2, dp_i, decide_true, Bool.and_self, if_true, eqs_any_int]
theorem any_perm {α : Type} {l m : List α} (h : l.Perm m) (p : α → Bool) : l.any p = m.any p := by
  rw [Bool.eq_iff_iff, List.any_eq_true, List.any_eq_true]
  exact ⟨fun ⟨x, hx, hp⟩ => ⟨x, h.mem_iff.mp hx, hp⟩, fun ⟨x, hx, hp⟩ => ⟨x, h.mem_iff.mpr hx, hp⟩⟩
theorem mem_intsL (n : Nat) (r : List Nat) : decide ((n : Int) ∈ intsL r) = decide (n ∈ r) := by
  congr 1
  apply propext
  unfold intsL
  rw [List.mem_map]
  exact ⟨fun ⟨m, hm, e⟩ => by have : m = n := by omega
                              rw [← this]; exact hm, fun h => ⟨n, h, rfl⟩⟩
theorem srt_any (f : List (List Nat)) (n : Nat) : ((sortR (f.map intsL)).any fun r => decide ((n : Int) ∈ r)) = f.any fun r => decide (n ∈ r) := by
  rw [any_perm (sortR_perm _), List.any_map]
  congr 1
  funext r
  exact mem_intsL n r
theorem srt_len (f : List (List Nat)) : (sortR (f.map intsL)).length = f.length := by
  rw [(sortR_perm _).length_eq, List.length_map]
/-- edges of some rings -/
noncomputable def offF (es : List Ed) (sm : List (Fin es.length)) (N : Nat) : List (Fin es.length) := sm.filter fun k => !(fnd es sm N).any fun r => decide (k.1 ∈ r)
theorem e5 (k : Nat) (es : List Ed) (sm : List (Fin es.length)) (S : D) (N : Nat) (hS : itemsOf S = some (sm.map fI)) (hN : N ≤ 20) (hs : sm.length ≤ 20) (hG : Good es N) : cf (k + 3) 5 [.v (.tup (es.map eD)), .v S] = .ok (.v (.tup ((offF es sm N).map fI))) [] := by
  have h1 := e3 k es sm S N hS hN hs hG
  have h2 : sm.length ≤ 100000 := by omega
  have h3 : (sortR ((fnd es sm N).map intsL)).length ≤ 100000 := by rw [srt_len]; have := fnd_len es sm N; omega
  have c : pv (Ko (k + 2)) C_off_rings_3 [some (.v (.tup (es.map eD))), some (.v S), some (.v (.tup (srt (fnd es sm N)))), none, none] = some (.l ((offF es sm N).map fI)) := by
    refine pv_filc (qs := [S]) fI _ fI (by simp!) (by simp!) (by rw [walk_val, hS]) h2 fun e _ => ?_
    have h4 := srt_any (fnd es sm N) e.1
    unfold srt
    cases hc : (fnd es sm N).any fun r => decide (e.1 ∈ r) with
    | true =>
      rw [hc] at h4
      simp! [fI, h3, h4, -o_in_]
    | false =>
      rw [hc] at h4
      simp! [fI, h3, h4, -o_in_]
  rw [d5 _ _ rfl]
  simp! [-uC_off_rings_3, h1, c]
theorem e9 (k : Nat) (es : List Ed) (sm : List (Fin es.length)) (S : D) (N : Nat) (hS : itemsOf S = some (sm.map fI)) (hN : N ≤ 20) (hs : sm.length ≤ 20) (hG : Good es N) (e : Fin es.length) : cf (k + 2) 9 [.v (.tup (es.map eD)), .v S, .v (fI e)] = .ok (.v (.bl (decide ((ed es e).s ∈ Bh es sm N (ed es e).t)))) [] := by
  have h0 : cf (k + 1) 0 [.v (.tup (es.map eD)), .v S, .v (.tup [.int ((ed es e).t : Int)])] = .ok (.v (rowN (Bh es sm N (ed es e).t))) [] := e0 k es sm S [(ed es e).t] N hS hN hs (hG.prs sm) (by simpa using hG.t e) (by simp)
  have hed : es[(e : Nat)] = ed es e := rfl
  rw [d9 _ _ rfl]
  simp! [fI, hed, h0, -o_in_]
/-- the edges that enter -/
def entF (es : List Ed) (ev ring : List (Fin es.length)) : List (Fin es.length) := ev.filter fun k => !decide (k.1 ∈ ring.map Fin.val) && decide ((ed es k).t ∈ ring.map fun k => (ed es k).s)
@[simp] theorem in_lN (i : Nat) (v : List Nat) : o_in_ [.int (i : Int), .lst (v.map nI)] = some (.v (.bl (decide (i ∈ v)))) := by
  simp [o_in_]
@[simp] theorem items_rowN (v : List Nat) : itemsOf (rowN v) = some (v.map nI) := rfl
theorem e8 (k : Nat) (es : List Ed) (evs ring : List (Fin es.length)) (he : evs.length ≤ 1000) (hr : ring.length ≤ 1000) : cf (k + 1) 8 [.v (.tup (es.map eD)), .v (.tup (evs.map fI)), .v (rowN (ring.map Fin.val))] = .ok (.v (.tup ((entF es evs ring).map fI))) [] := by
  have h1 : evs.length ≤ 100000 := by omega
  have h2 : ring.length ≤ 100000 := by omega
  have c1 : pv (Ko k) C_entries_of_1 [some (.v (.tup (es.map eD))), some (.v (.tup (evs.map fI))), some (.v (rowN (ring.map Fin.val))), none, none] = some (.l ((ring.map fun k => (ed es k).s).map nI)) := by
    rw [List.map_map]
    refine pv_mapc (qs := [rowN (ring.map Fin.val)]) fI _ (by simp!) (by simp!) (by rw [walk_val, items_rowN, fI_nI]) h2 fun e _ => ?_
    have hed : es[(e : Nat)] = ed es e := rfl
    simp! [fI, hed]
    rfl
  have c2 : pv (Ko k) C_entries_of_3 [some (.v (.tup (es.map eD))), some (.v (.tup (evs.map fI))), some (.v (rowN (ring.map Fin.val))), some (.l ((ring.map fun k => (ed es k).s).map nI)), none] = some (.l ((entF es evs ring).map fI)) := by
    refine pv_filc (qs := [.tup (evs.map fI)]) fI _ fI (by simp!) (by simp!) (by rw [walk_val, items_t]) h1 fun e _ => ?_
    have hed : es[(e : Nat)] = ed es e := rfl
    generalize ring.map Fin.val = rv
    generalize (ring.map fun k => (ed es k).s) = rs
    by_cases q1 : e.1 ∈ rv <;> by_cases q2 : (ed es e).t ∈ rs <;> simp! [fI, hed, q1, q2, -o_in_, -o_nin]
  rw [List.map_map] at c1 c2
  rw [d8 _ _ rfl]
  simp! [-uC_entries_of_1, -uC_entries_of_3, c1, c2]
/-- ruled -/
def lefF (es : List Ed) (sm : List (Fin es.length)) (p : Nat) : List (Fin es.length) := sm.filter fun k => !decide ((ed es k).s = p) && !decide ((ed es k).t = p)
noncomputable def rulF (es : List Ed) (sm : List (Fin es.length)) (N f p : Nat) : List Nat := if p = f then Bh es sm N f else (Bh es sm N f).filter fun x => !decide (x ∈ Bh es (lefF es sm p) N f)
theorem Bh_len (es : List Ed) (sm : List (Fin es.length)) (N x : Nat) : (Bh es sm N x).length ≤ N := by
  unfold Bh RL
  have := List.length_filter_le (fun b => @decide (Reach (prs es sm) [x] b) (Classical.propDecidable _)) (List.range N)
  simpa using this
theorem e10 (k : Nat) (es : List Ed) (sm : List (Fin es.length)) (S : D) (N f p : Nat) (hS : itemsOf S = some (sm.map fI)) (hN : N ≤ 20) (hs : sm.length ≤ 20) (hG : Good es N) (hf : f < N) : cf (k + 2) 10 [.v (.tup (es.map eD)), .v S, .v (.int (f : Int)), .v (.int (p : Int))] = .ok (.v (rowN (rulF es sm N f p))) [] := by
  have h0 : cf (k + 1) 0 [.v (.tup (es.map eD)), .v S, .v (.tup [.int (f : Int)])] = .ok (.v (rowN (Bh es sm N f))) [] := e0 k es sm S [f] N hS hN hs (hG.prs sm) (by simpa using hf) (by simp)
  have hl : (lefF es sm p).length ≤ sm.length := List.length_filter_le _ _
  have h1 : cf (k + 1) 0 [.v (.tup (es.map eD)), .v (.lst ((lefF es sm p).map fI)), .v (.tup [.int (f : Int)])] = .ok (.v (rowN (Bh es (lefF es sm p) N f))) [] := e0 k es (lefF es sm p) (.lst ((lefF es sm p).map fI)) [f] N rfl hN (by omega) (hG.prs _) (by simpa using hf) (by simp)
  have h2 : sm.length ≤ 100000 := by omega
  have h3 : (Bh es sm N f).length ≤ 100000 := by have := Bh_len es sm N f; omega
  have c1 : pv (Ko (k + 1)) C_ruled_by_6 [some (.v (.tup (es.map eD))), some (.v S), some (.v (.int (f : Int))), some (.v (.int (p : Int))), some (.v (rowN (Bh es sm N f))), none, none, none, none] = some (.l ((lefF es sm p).map fI)) := by
    refine pv_filc (qs := [S]) fI _ fI (by simp!) (by simp!) (by rw [walk_val, hS]) h2 fun e _ => ?_
    have hed : es[(e : Nat)] = ed es e := rfl
    by_cases q1 : (ed es e).s = p <;> by_cases q2 : (ed es e).t = p <;> simp! [fI, hed, q1, q2]
  have c2 : pv (Ko (k + 1)) C_ruled_by_9 [some (.v (.tup (es.map eD))), some (.v S), some (.v (.int (f : Int))), some (.v (.int (p : Int))), some (.v (rowN (Bh es sm N f))), some (.v (.lst ((lefF es sm p).map fI))), some (.v (rowN (Bh es (lefF es sm p) N f))), none, none] = some (.l (((Bh es sm N f).filter fun x => !decide (x ∈ Bh es (lefF es sm p) N f)).map nI)) := by
    refine pv_filc (qs := [rowN (Bh es sm N f)]) nI _ nI (by simp!) (by simp!) (by rw [walk_val, items_rowN]) h3 fun x _ => ?_
    generalize Bh es (lefF es sm p) N f = B
    by_cases q : x ∈ B <;> simp! [nI, q, -o_nin]
  rw [d10 _ _ rfl]
  unfold rulF
  by_cases hp : p = f
  · subst hp
    simp! [h0]
  · have hp' : ¬ f = p := fun z => hp z.symm
    simp! [h0, h1, hp, hp', -uC_ruled_by_6, -uC_ruled_by_9, c1, c2]
    rfl
end Tk06
end
section
/-! K06j: order_of. -/
namespace Tk06
open Pv Pu
local macro_rules
  | `(tactic| simp! $[$l:location]?) => `(tactic| simp (maxDischargeDepth := 12) [-Option.bind_some, ob_some, Pv.get, Op.keeps, fetchs, fetch, opD, o_tup, o_lst, o_add, o_sub, o_mul, o_fdiv, o_mod, o_pow, o_neg, o_eq, o_ne, o_lt, o_gt, o_le, o_ge, o_in_, o_nin, o_isN, o_isnN, o_sl, o_len, o_abs, o_max, o_min, o_tupleOf, o_listOf, o_intOf, o_isi, o_get, o_get2, bounds, slD, dlook, flatD, keyOk, backs, ioFits, assigns, forget, T.slots, T.slotss, noOwn, frzSlot, sets, argsOf, iosOf, noDup, putBacks, setAt, putIx, subL, slotsG, isElt] $[$l]?)
  | `(tactic| simp! [$as,*] $[$l:location]?) => `(tactic| simp (maxDischargeDepth := 12) [-Option.bind_some, ob_some, Pv.get, Op.keeps, fetchs, fetch, opD, o_tup, o_lst, o_add, o_sub, o_mul, o_fdiv, o_mod, o_pow, o_neg, o_eq, o_ne, o_lt, o_gt, o_le, o_ge, o_in_, o_nin, o_isN, o_isnN, o_sl, o_len, o_abs, o_max, o_min, o_tupleOf, o_listOf, o_intOf, o_isi, o_get, o_get2, bounds, slD, dlook, flatD, keyOk, backs, ioFits, assigns, forget, T.slots, T.slotss, noOwn, frzSlot, sets, argsOf, iosOf, noDup, putBacks, setAt, putIx, subL, slotsG, isElt, $as,*] $[$l]?)

theorem toRows_D : ∀ {rs : List (List Int)}, (∀ r ∈ rs, r ≠ []) → toRows (rs.map rowD) = some rs
  | [], _ => rfl
  | r :: rs, h => by
    have h1 := h r List.mem_cons_self
    have h2 : r.isEmpty = false := by cases r with | nil => exact absurd rfl h1 | cons => rfl
    rw [List.map_cons, show rowD r = .tup (r.map D.int) from rfl, toRows, show toInts (r.map D.int) = some r by
      have := toInts_mapS (fun i : Int => i) r
      rwa [List.map_id'] at this]
    simp only [Option.bind_some]
    rw [h2, toRows_D fun r hr => h r (List.mem_cons_of_mem _ hr)]
    rfl
theorem sorted_rowD {rs : List (List Int)} (h : ∀ r ∈ rs, r ≠ []) (hl : rs.length < 100000) : o_sorted [.lst (rs.map rowD)] = some (.l ((sortR rs).map rowD)) := by
  cases rs with
  | nil => rfl
  | cons r f =>
    have e : sortD ((r :: f).map rowD) = none := rfl
    simp only [o_sorted, e, List.length_map, hl, if_true, toRows_D h, Option.map_some]
/-- the key by which places are put in order -/
noncomputable def ky (es : List Ed) (sm : List (Fin es.length)) (N p : Nat) : List Int := [-((Bh es sm N p).length : Int), (p : Int)]
noncomputable def ordL (es : List Ed) (sm : List (Fin es.length)) (N f : Nat) : List Nat := (sortR ((Bh es sm N f).map (ky es sm N))).map fun r => (r.getD 1 0).toNat
theorem ord_ky (es : List Ed) (sm : List (Fin es.length)) (N f : Nat) : (ordL es sm N f).map (ky es sm N) = sortR ((Bh es sm N f).map (ky es sm N)) := by
  unfold ordL
  rw [List.map_map]
  refine (List.map_congr_left fun r hr => ?_).trans (List.map_id _)
  obtain ⟨p, _, rfl⟩ := List.mem_map.mp ((sortR_perm _).mem_iff.mp hr)
  simp [ky]
theorem ord_perm (es : List Ed) (sm : List (Fin es.length)) (N f : Nat) : (ordL es sm N f).Perm (Bh es sm N f) := by
  unfold ordL
  have h := (sortR_perm ((Bh es sm N f).map (ky es sm N))).map fun r => (r.getD 1 0).toNat
  rw [List.map_map] at h
  refine h.trans (List.Perm.of_eq ?_)
  refine (List.map_congr_left fun p _ => ?_).trans (List.map_id _)
  simp [ky]
theorem ord_sorted (es : List Ed) (sm : List (Fin es.length)) (N f : Nat) : (ordL es sm N f).Pairwise fun p q => leR (ky es sm N p) (ky es sm N q) := by
  have h := sortR_sorted ((Bh es sm N f).map (ky es sm N))
  rw [← ord_ky, List.pairwise_map] at h
  exact h
theorem Bh_nodup (es : List Ed) (sm : List (Fin es.length)) (N x : Nat) : (Bh es sm N x).Nodup := RL_nodup _ _ _
theorem Bh_lt {es : List Ed} {sm : List (Fin es.length)} {N x y : Nat} (h : y ∈ Bh es sm N x) : y < N := (RL_mem.mp h).1
theorem ky_D (es : List Ed) (sm : List (Fin es.length)) (N p : Nat) : rowD (ky es sm N p) = .tup [.int (-((Bh es sm N p).length : Int)), .int (p : Int)] := rfl
@[simp] theorem len_rowN (v : List Nat) : o_len [rowN v] = some (.v (.int (v.length : Int))) := by simp [rowN, o_len]
theorem e6 (k : Nat) (es : List Ed) (sm : List (Fin es.length)) (S : D) (N f : Nat) (hS : itemsOf S = some (sm.map fI)) (hN : N ≤ 20) (hs : sm.length ≤ 20) (hG : Good es N) (hf : f < N) : cf (k + 2) 6 [.v (.tup (es.map eD)), .v S, .v (.int (f : Int))] = .ok (.v (rowN (ordL es sm N f))) [] := by
  have h0 : ∀ x, x < N → cf (k + 1) 0 [.v (.tup (es.map eD)), .v S, .v (.tup [.int (x : Int)])] = .ok (.v (rowN (Bh es sm N x))) [] := fun x hx => e0 k es sm S [x] N hS hN hs (hG.prs sm) (by simpa using hx) (by simp)
  have h1 := h0 f hf
  have hlen := Bh_len es sm N f
  have h3 : (Bh es sm N f).length ≤ 100000 := by omega
  have h4 : (ordL es sm N f).length ≤ 100000 := by rw [(ord_perm es sm N f).length_eq]; omega
  have c1 : pv (Ko (k + 1)) C_order_of_2 [some (.v (.tup (es.map eD))), some (.v S), some (.v (.int (f : Int))), some (.v (rowN (Bh es sm N f))), none, none, none, none] = some (.l ((Bh es sm N f).map fun x => .tup [nI x, rowN (Bh es sm N x)])) := by
    refine pv_mapc (qs := [rowN (Bh es sm N f)]) nI _ (by simp!) (by simp!) (by rw [walk_val, items_rowN]) h3 fun x hx => ?_
    have := h0 x (Bh_lt hx)
    simp! [nI, this]
  have hd := dict_kvG keyI rowN (l := (Bh es sm N f).map fun x => (x, Bh es sm N x)) (by rw [List.map_map]; show ((Bh es sm N f).map fun x => x).Nodup; simpa using Bh_nodup es sm N f)
  rw [List.map_map] at hd
  have hd' : o_dictOf [.lst ((Bh es sm N f).map fun x => .tup [nI x, rowN (Bh es sm N x)])] = some (.m (bD es sm N (Bh es sm N f))) := hd
  have c2 : pv (Ko (k + 1)) C_order_of_4 [some (.v (.tup (es.map eD))), some (.v S), some (.v (.int (f : Int))), some (.v (rowN (Bh es sm N f))), some (.m (bD es sm N (Bh es sm N f))), none, none, none] = some (.l (((Bh es sm N f).map (ky es sm N)).map rowD)) := by
    rw [List.map_map]
    refine pv_mapc (qs := [rowN (Bh es sm N f)]) nI _ (by simp!) (by simp!) (by rw [walk_val, items_rowN]) h3 fun x hx => ?_
    have hl := bD_look (es := es) (sm := sm) (N := N) (Bh_nodup es sm N f) hx
    simp! [nI, hl, ky_D, -o_len]
  have hso := sorted_rowD (rs := (Bh es sm N f).map (ky es sm N)) (fun r hr => by
    obtain ⟨p, _, rfl⟩ := List.mem_map.mp hr
    simp [ky]) (by simp; omega)
  rw [← ord_ky] at hso
  have a1 : evS (Ko (k + 1)) S_order_of_1 [some (.v (.tup (es.map eD))), some (.v S), some (.v (.int (f : Int))), none, none, none, none, none] = .next [some (.v (.tup (es.map eD))), some (.v S), some (.v (.int (f : Int))), some (.v (rowN (Bh es sm N f))), none, none, none, none] := by
    simp! [h1]
  have a2 : evS (Ko (k + 1)) S_order_of_3 [some (.v (.tup (es.map eD))), some (.v S), some (.v (.int (f : Int))), some (.v (rowN (Bh es sm N f))), none, none, none, none] = .next [some (.v (.tup (es.map eD))), some (.v S), some (.v (.int (f : Int))), some (.v (rowN (Bh es sm N f))), some (.m (bD es sm N (Bh es sm N f))), none, none, none] := by
    simp! [-uC_order_of_2, c1, hd']
  have a3 : evS (Ko (k + 1)) S_order_of_5 [some (.v (.tup (es.map eD))), some (.v S), some (.v (.int (f : Int))), some (.v (rowN (Bh es sm N f))), some (.m (bD es sm N (Bh es sm N f))), none, none, none] = .next [some (.v (.tup (es.map eD))), some (.v S), some (.v (.int (f : Int))), some (.v (rowN (Bh es sm N f))), some (.m (bD es sm N (Bh es sm N f))), some (.l (((ordL es sm N f).map (ky es sm N)).map rowD)), none, none] := by
    generalize hq1 : ((Bh es sm N f).map (ky es sm N)).map rowD = q1 at c2 hso
    generalize hq2 : ((ordL es sm N f).map (ky es sm N)).map rowD = q2 at hso ⊢
    simp! [-uC_order_of_4, c2, hso]
  have a4 : evS (Ko (k + 1)) S_order_of_7 [some (.v (.tup (es.map eD))), some (.v S), some (.v (.int (f : Int))), some (.v (rowN (Bh es sm N f))), some (.m (bD es sm N (Bh es sm N f))), some (.l (((ordL es sm N f).map (ky es sm N)).map rowD)), none, none] = .ret (.v (rowN (ordL es sm N f))) [some (.v (.tup (es.map eD))), some (.v S), some (.v (.int (f : Int))), some (.v (rowN (Bh es sm N f))), some (.m (bD es sm N (Bh es sm N f))), some (.v (.lst (((ordL es sm N f).map (ky es sm N)).map rowD))), none, none] := by
    simp! [ky_D, h4]
    rfl
  have e := evSs_next a1 (evSs_next a2 (evSs_next a3 (evSs_ret (ss := .nil) a4)))
  rw [d6 _ _ rfl]
  have e' : ([R.v (.tup (es.map eD)), R.v S, R.v (.int (f : Int))].map some ++ List.replicate (8 - 3) none : Env) = [some (.v (.tup (es.map eD))), some (.v S), some (.v (.int (f : Int))), none, none, none, none, none] := rfl
  have hb : b_order_of = .cons S_order_of_1 (.cons S_order_of_3 (.cons S_order_of_5 (.cons S_order_of_7 .nil))) := rfl
  rw [e', hb, e]
  rfl
end Tk06
end
section
/-! K06k: least sums of steps: plain. -/
namespace Tk06
open Pv Pu
/-- walks: the places that are come to (the last first), the sum, the end -/
inductive Wk (E : List (Nat × Nat × Nat)) (a : Nat) : List Nat → Nat → Nat → Prop
  | nil : Wk E a [] 0 a
  | snoc {l : List Nat} {w u v c : Nat} : Wk E a l w u → (u, v, c) ∈ E → Wk E a (v :: l) (w + c) v
def relF (g : Nat → Option Nat) (e : Nat × Nat × Nat) : Nat → Option Nat := match g e.1 with
  | none => g
  | some d => fun v => if v = e.2.1 then some (match g e.2.1 with | none => d + e.2.2 | some d' => min (d + e.2.2) d') else g v
def le' (g h : Nat → Option Nat) : Prop := ∀ v w, g v = some w → ∃ w', w' ≤ w ∧ h v = some w'
theorem le'.refl (g : Nat → Option Nat) : le' g g := fun v w h => ⟨w, Nat.le_refl _, h⟩
theorem le'.trans {f g h : Nat → Option Nat} (x : le' f g) (y : le' g h) : le' f h := fun v w e => by
  obtain ⟨w1, h1, e1⟩ := x v w e
  obtain ⟨w2, h2, e2⟩ := y v w1 e1
  exact ⟨w2, Nat.le_trans h2 h1, e2⟩
theorem rel_mono (g : Nat → Option Nat) (e : Nat × Nat × Nat) : le' g (relF g e) := fun v w h => by
  unfold relF
  cases h1 : g e.1 with
  | none => exact ⟨w, Nat.le_refl _, h⟩
  | some d =>
    simp only
    by_cases hv : v = e.2.1
    · rw [if_pos hv, ← hv, h]
      exact ⟨_, Nat.min_le_right _ _, rfl⟩
    · rw [if_neg hv]
      exact ⟨w, Nat.le_refl _, h⟩
theorem rel_at {g : Nat → Option Nat} {e : Nat × Nat × Nat} {d : Nat} (h : g e.1 = some d) : ∃ w', w' ≤ d + e.2.2 ∧ relF g e e.2.1 = some w' := by
  unfold relF
  rw [h]
  simp only [if_true]
  cases g e.2.1 with
  | none => exact ⟨_, Nat.le_refl _, rfl⟩
  | some d' => exact ⟨_, Nat.min_le_left _ _, rfl⟩
def rndF (E : List (Nat × Nat × Nat)) (g : Nat → Option Nat) : Nat → Option Nat := E.foldl relF g
theorem fold_mono : ∀ (E : List (Nat × Nat × Nat)) (g : Nat → Option Nat), le' g (E.foldl relF g)
  | [], g => le'.refl g
  | e :: E, g => (rel_mono g e).trans (fold_mono E _)
theorem fold_at : ∀ (E : List (Nat × Nat × Nat)) (g : Nat → Option Nat) (u v c d : Nat), (u, v, c) ∈ E → g u = some d → ∃ w', w' ≤ d + c ∧ E.foldl relF g v = some w'
  | e :: E, g, u, v, c, d, h, hg => by
    rw [List.foldl_cons]
    rcases List.mem_cons.mp h with h | h
    · subst h
      obtain ⟨w1, h1, e1⟩ := rel_at (g := g) (e := (u, v, c)) hg
      obtain ⟨w2, h2, e2⟩ := fold_mono E _ v w1 e1
      exact ⟨w2, Nat.le_trans h2 h1, e2⟩
    · obtain ⟨d1, h1, e1⟩ := rel_mono g e u d hg
      obtain ⟨w', h2, e2⟩ := fold_at E _ u v c d1 h e1
      exact ⟨w', by omega, e2⟩
/-- what n steps reach is told -/
def Told (E : List (Nat × Nat × Nat)) (a n : Nat) (g : Nat → Option Nat) : Prop := ∀ l w v, Wk E a l w v → l.length ≤ n → ∃ w', w' ≤ w ∧ g v = some w'
theorem told_round {E : List (Nat × Nat × Nat)} {a n : Nat} {g : Nat → Option Nat} (h : Told E a n g) : Told E a (n + 1) (rndF E g) := fun l w v hw hl => by
  cases hw with
  | nil =>
    obtain ⟨w', h1, h2⟩ := h [] 0 a .nil (Nat.zero_le _)
    obtain ⟨w2, h3, h4⟩ := fold_mono E g a w' h2
    exact ⟨w2, Nat.le_trans h3 h1, h4⟩
  | snoc hu he =>
    rename_i l' w' u c
    rw [List.length_cons] at hl
    obtain ⟨d, h1, h2⟩ := h l' w' u hu (by omega)
    obtain ⟨w2, h3, h4⟩ := fold_at E g u v c d he h2
    exact ⟨w2, by omega, h4⟩
/-- what is told is so -/
def Sound (E : List (Nat × Nat × Nat)) (a : Nat) (g : Nat → Option Nat) : Prop := ∀ v w, g v = some w → ∃ l, Wk E a l w v
theorem sound_rel {E : List (Nat × Nat × Nat)} {a : Nat} {g : Nat → Option Nat} {e : Nat × Nat × Nat} (h : Sound E a g) (he : e ∈ E) : Sound E a (relF g e) := fun v w hv => by
  unfold relF at hv
  cases h1 : g e.1 with
  | none => rw [h1] at hv; exact h v w hv
  | some d =>
    rw [h1] at hv
    simp only at hv
    by_cases hx : v = e.2.1
    · rw [if_pos hx] at hv
      obtain ⟨l, hl⟩ := h e.1 d h1
      have hs : Wk E a (e.2.1 :: l) (d + e.2.2) e.2.1 := .snoc hl he
      cases h2 : g e.2.1 with
      | none =>
        rw [h2] at hv
        cases hv
        rw [hx]
        exact ⟨_, hs⟩
      | some d' =>
        rw [h2] at hv
        have hv := Option.some.inj hv
        simp only at hv
        by_cases hm : d + e.2.2 ≤ d'
        · rw [Nat.min_eq_left hm] at hv
          rw [hx, ← hv]
          exact ⟨_, hs⟩
        · rw [Nat.min_eq_right (by omega)] at hv
          rw [hx, ← hv]
          exact h _ _ h2
    · rw [if_neg hx] at hv
      exact h v w hv
theorem sound_fold {E : List (Nat × Nat × Nat)} {a : Nat} : ∀ (E' : List (Nat × Nat × Nat)) (g : Nat → Option Nat), (∀ e ∈ E', e ∈ E) → Sound E a g → Sound E a (E'.foldl relF g)
  | [], g, _, h => h
  | e :: E', g, hs, h => sound_fold E' _ (fun e he => hs e (List.mem_cons_of_mem _ he)) (sound_rel h (hs e List.mem_cons_self))
def itR (E : List (Nat × Nat × Nat)) : Nat → (Nat → Option Nat) → Nat → Option Nat
  | 0, g => g
  | n + 1, g => itR E n (rndF E g)
def st0 (a : Nat) : Nat → Option Nat := fun v => if v = a then some 0 else none
theorem sound_it {E : List (Nat × Nat × Nat)} {a : Nat} : ∀ (n : Nat) (g : Nat → Option Nat), Sound E a g → Sound E a (itR E n g)
  | 0, g, h => h
  | n + 1, g, h => sound_it n _ (sound_fold E g (fun _ h => h) h)
theorem told_it {E : List (Nat × Nat × Nat)} {a : Nat} : ∀ (n m : Nat) (g : Nat → Option Nat), Told E a m g → Told E a (m + n) (itR E n g)
  | 0, m, g, h => h
  | n + 1, m, g, h => by
    have := told_it n (m + 1) _ (told_round h)
    rw [show m + (n + 1) = m + 1 + n by omega]
    exact this
theorem told_0 (E : List (Nat × Nat × Nat)) (a : Nat) : Told E a 0 (st0 a) := fun l w v hw hl => by
  cases hw with
  | nil => exact ⟨0, Nat.le_refl _, by simp [st0]⟩
  | snoc hu he => simp at hl
theorem sound_0 (E : List (Nat × Nat × Nat)) (a : Nat) : Sound E a (st0 a) := fun v w h => by
  unfold st0 at h
  split at h
  · rename_i e
    cases h
    rw [e]
    exact ⟨[], .nil⟩
  · cases h
/-- a walk's part up to a place that it comes to -/
theorem wk_cut {E : List (Nat × Nat × Nat)} {a : Nat} {l : List Nat} {w u : Nat} (h : Wk E a l w u) (hn : l.Nodup) : ∀ v ∈ l, ∃ l' w', Wk E a l' w' v ∧ w' ≤ w ∧ l'.Nodup := by
  induction h with
  | nil => nofun
  | snoc hu he ih =>
    rename_i l w u x c
    intro v hv
    have hn' := List.nodup_cons.mp hn
    rcases List.mem_cons.mp hv with rfl | hv
    · exact ⟨_, _, .snoc hu he, Nat.le_refl _, hn⟩
    · obtain ⟨l', w', h1, h2, h3⟩ := ih hn'.2 v hv
      exact ⟨l', w', h1, by omega, h3⟩
theorem wk_short {E : List (Nat × Nat × Nat)} {a : Nat} {l : List Nat} {w v : Nat} (h : Wk E a l w v) : ∃ l' w', Wk E a l' w' v ∧ w' ≤ w ∧ l'.Nodup := by
  induction h with
  | nil => exact ⟨[], 0, .nil, Nat.le_refl _, List.nodup_nil⟩
  | snoc hu he ih =>
    rename_i l w u x c
    obtain ⟨l', w', h1, h2, h3⟩ := ih
    by_cases hx : x ∈ l'
    · obtain ⟨l2, w2, h4, h5, h6⟩ := wk_cut h1 h3 x hx
      exact ⟨l2, w2, h4, by omega, h6⟩
    · exact ⟨x :: l', w' + c, .snoc h1 he, by omega, List.nodup_cons.mpr ⟨hx, h3⟩⟩
theorem wk_ends {E : List (Nat × Nat × Nat)} {a : Nat} {l : List Nat} {w v : Nat} (h : Wk E a l w v) : ∀ x ∈ l, ∃ e ∈ E, e.2.1 = x := by
  induction h with
  | nil => nofun
  | snoc hu he ih =>
    intro x hx
    rcases List.mem_cons.mp hx with rfl | hx
    · exact ⟨_, he, rfl⟩
    · exact ih x hx
/-- enough rounds: more change nothing -/
theorem it_same {E : List (Nat × Nat × Nat)} {a : Nat} {P : List Nat} (hP : ∀ e ∈ E, e.2.1 ∈ P) {n m : Nat} (hn : P.length ≤ n) (hm : P.length ≤ m) (v : Nat) : itR E n (st0 a) v = itR E m (st0 a) v := by
  have go : ∀ n m, P.length ≤ n → P.length ≤ m → ∀ w, itR E n (st0 a) v = some w → ∃ w', w' ≤ w ∧ itR E m (st0 a) v = some w' := fun n m _ hm w h => by
    obtain ⟨l, hl⟩ := sound_it n _ (sound_0 E a) v w h
    obtain ⟨l', w', h1, h2, h3⟩ := wk_short hl
    have h4 : l'.length ≤ P.length := h3.length_le_of_subset fun x hx => by
      obtain ⟨e, he, rfl⟩ := wk_ends h1 x hx
      exact hP e he
    obtain ⟨w2, h5, h6⟩ := told_it m 0 _ (told_0 E a) l' w' v h1 (by omega)
    exact ⟨w2, by omega, h6⟩
  cases h1 : itR E n (st0 a) v with
  | none =>
    cases h2 : itR E m (st0 a) v with
    | none => rfl
    | some w =>
      obtain ⟨w', _, h3⟩ := go m n hm hn w h2
      rw [h1] at h3
      cases h3
  | some w =>
    obtain ⟨w', h2, h3⟩ := go n m hn hm w h1
    obtain ⟨w2, h4, h5⟩ := go m n hm hn w' h3
    rw [h1] at h5
    cases h5
    rw [h3, Nat.le_antisymm h2 h4]
end Tk06
end
section
/-! K06l: least_steps. -/
namespace Tk06
open Pv Pu
local macro_rules
  | `(tactic| simp! $[$l:location]?) => `(tactic| simp (maxDischargeDepth := 12) [-Option.bind_some, ob_some, Pv.get, Op.keeps, fetchs, fetch, opD, o_tup, o_lst, o_add, o_sub, o_mul, o_fdiv, o_mod, o_pow, o_neg, o_eq, o_ne, o_lt, o_gt, o_le, o_ge, o_in_, o_nin, o_isN, o_isnN, o_sl, o_len, o_abs, o_max, o_min, o_tupleOf, o_listOf, o_intOf, o_isi, o_get, o_get2, bounds, slD, dlook, flatD, keyOk, backs, ioFits, assigns, forget, T.slots, T.slotss, noOwn, frzSlot, sets, argsOf, iosOf, noDup, putBacks, setAt, putIx, subL, slotsG, isElt] $[$l]?)
  | `(tactic| simp! [$as,*] $[$l:location]?) => `(tactic| simp (maxDischargeDepth := 12) [-Option.bind_some, ob_some, Pv.get, Op.keeps, fetchs, fetch, opD, o_tup, o_lst, o_add, o_sub, o_mul, o_fdiv, o_mod, o_pow, o_neg, o_eq, o_ne, o_lt, o_gt, o_le, o_ge, o_in_, o_nin, o_isN, o_isnN, o_sl, o_len, o_abs, o_max, o_min, o_tupleOf, o_listOf, o_intOf, o_isi, o_get, o_get2, bounds, slD, dlook, flatD, keyOk, backs, ioFits, assigns, forget, T.slots, T.slotss, noOwn, frzSlot, sets, argsOf, iosOf, noDup, putBacks, setAt, putIx, subL, slotsG, isElt, $as,*] $[$l]?)

def bst (l : List (Nat × Nat)) : List (D × D) := kvG nI nI l
theorem bst_has (l : List (Nat × Nat)) (x : Nat) : mhas (bst l) (.int (x : Int)) = (lkG l x).isSome := by
  unfold mhas bst
  rw [show (.int (x : Int) : D) = nI x from rfl, mlook_kvG keyI]
  cases lkG l x <;> rfl
theorem bst_look (l : List (Nat × Nat)) (x : Nat) : mlook (bst l) (.int (x : Int)) = (lkG l x).map nI := mlook_kvG keyI nI l x
theorem bst_put (l : List (Nat × Nat)) (x v : Nat) : mput (bst l) (.int (x : Int)) (.int (v : Int)) = bst (putG l x v) := mput_kvG keyI nI l x v
theorem bst_len (l : List (Nat × Nat)) : (bst l).length = l.length := by simp [bst]
/-- one edge, as the program takes it -/
def relP (es : List Ed) (l : List (Nat × Nat)) (k : Fin es.length) : List (Nat × Nat) := match lkG l (ed es k).s with
  | none => l
  | some d => match lkG l (ed es k).t with
    | none => putG l (ed es k).t (d + (ed es k).c)
    | some d' => if d + (ed es k).c < d' then putG l (ed es k).t (d + (ed es k).c) else l
def edg (es : List Ed) (sm : List (Fin es.length)) : List (Nat × Nat × Nat) := sm.map fun k => ((ed es k).s, (ed es k).t, (ed es k).c)
structure Ks (N : Nat) (l : List (Nat × Nat)) : Prop where
  nd : (l.map (·.1)).Nodup
  lo : ∀ x ∈ l.map (·.1), x < N
theorem Ks.len {N : Nat} {l : List (Nat × Nat)} (h : Ks N l) : l.length ≤ N := by
  have := nodup_lt h.nd h.lo
  rwa [List.length_map] at this
theorem Ks.put {N : Nat} {l : List (Nat × Nat)} (h : Ks N l) {x : Nat} (hx : x < N) (v : Nat) : Ks N (putG l x v) := ⟨putG_nodup h.nd x v, fun y hy => by
  rw [names_putG] at hy
  split at hy
  · exact h.lo y hy
  · rcases List.mem_append.mp hy with z | z
    · exact h.lo y z
    · rw [List.mem_singleton.mp z]; exact hx⟩
theorem Ks.rel {es : List Ed} {N : Nat} {l : List (Nat × Nat)} (h : Ks N l) (hG : Good es N) (k : Fin es.length) : Ks N (relP es l k) := by
  unfold relP
  cases lkG l (ed es k).s with
  | none => exact h
  | some d =>
    simp only
    cases lkG l (ed es k).t with
    | none => exact h.put (hG.t k) _
    | some d' =>
      simp only
      split
      · exact h.put (hG.t k) _
      · exact h
theorem relP_F (es : List Ed) (l : List (Nat × Nat)) (k : Fin es.length) : lkG (relP es l k) = relF (lkG l) ((ed es k).s, (ed es k).t, (ed es k).c) := by
  funext v
  unfold relP relF
  simp only
  cases h1 : lkG l (ed es k).s with
  | none => rfl
  | some d =>
    simp only
    cases h2 : lkG l (ed es k).t with
    | none =>
      simp only
      rw [lk_putG]
      by_cases hv : v = (ed es k).t
      · rw [if_pos hv, if_pos hv.symm]
      · rw [if_neg hv, if_neg fun z => hv z.symm]
    | some d' =>
      simp only
      by_cases hc : d + (ed es k).c < d'
      · rw [if_pos hc, lk_putG]
        by_cases hv : v = (ed es k).t
        · rw [if_pos hv, if_pos hv.symm, Nat.min_eq_left (by omega)]
        · rw [if_neg hv, if_neg fun z => hv z.symm]
      · rw [if_neg hc]
        by_cases hv : v = (ed es k).t
        · rw [if_pos hv, hv, h2, Nat.min_eq_right (by omega)]
        · rw [if_neg hv]
theorem foldP_F (es : List Ed) : ∀ (sm : List (Fin es.length)) (l : List (Nat × Nat)), lkG (sm.foldl (relP es) l) = (edg es sm).foldl relF (lkG l)
  | [], l => rfl
  | k :: sm, l => by
    rw [List.foldl_cons, foldP_F es sm, relP_F]
    rfl
def itP (es : List Ed) (sm : List (Fin es.length)) : Nat → List (Nat × Nat) → List (Nat × Nat)
  | 0, l => l
  | n + 1, l => itP es sm n (sm.foldl (relP es) l)
theorem itP_F (es : List Ed) (sm : List (Fin es.length)) : ∀ (n : Nat) (l : List (Nat × Nat)), lkG (itP es sm n l) = itR (edg es sm) n (lkG l)
  | 0, l => rfl
  | n + 1, l => by
    rw [itP, itP_F es sm n, foldP_F]
    rfl
theorem foldI {α : Type} (f : List (Nat × Nat) → List (Nat × Nat)) : ∀ (xs : List α) (l : List (Nat × Nat)) (g : Nat → List (Nat × Nat) → List (Nat × Nat)), (∀ n l, g (n + 1) l = g n (f l)) → (∀ l, g 0 l = l) → xs.foldl (fun l _ => f l) l = g xs.length l
  | [], l, g, h1, h0 => (h0 l).symm
  | _ :: xs, l, g, h1, h0 => by rw [List.foldl_cons, foldI f xs _ g h1 h0, List.length_cons, h1]
theorem st_0 (a : Nat) : lkG [(a, 0)] = st0 a := by
  funext v
  unfold st0
  simp only [lkG]
  by_cases h : a = v
  · simp [h]
  · rw [if_neg h, if_neg fun z => h z.symm]
section
variable {es : List Ed} {sm : List (Fin es.length)} {S : D} {N : Nat} {s2 s3 s5 : Option R}
theorem least_step {C : Ctx} {l : List (Nat × Nat)} {e : Fin es.length} (hl : l.length ≤ 1000) : rnd C (.v 6) B_least_steps_11 [6, 7, 8, 9] (fI e) [some (.v (.tup (es.map eD))), some (.v S), s2, s3, some (.m (bst l)), s5, none, none, none, none] = .next [some (.v (.tup (es.map eD))), some (.v S), s2, s3, some (.m (bst (relP es l e))), s5, none, none, none, none] := by
  have hed : es[(e : Nat)] = ed es e := rfl
  have h1 : (bst l).length ≤ 100000 := by rw [bst_len]; omega
  have a1 : evS C S_least_steps_2 [some (.v (.tup (es.map eD))), some (.v S), s2, s3, some (.m (bst l)), s5, some (.v (fI e)), none, none, none] = .next [some (.v (.tup (es.map eD))), some (.v S), s2, s3, some (.m (bst l)), s5, some (.v (fI e)), some (.v (.int ((ed es e).s : Int))), some (.v (.int ((ed es e).t : Int))), none] := by
    simp! [fI, hed]
  have a2 : evT C Q_least_steps_3 [some (.v (.tup (es.map eD))), some (.v S), s2, s3, some (.m (bst l)), s5, some (.v (fI e)), some (.v (.int ((ed es e).s : Int))), some (.v (.int ((ed es e).t : Int))), none] = .ok (lkG l (ed es e).s).isSome [some (.v (.tup (es.map eD))), some (.v S), s2, s3, some (.m (bst l)), s5, some (.v (fI e)), some (.v (.int ((ed es e).s : Int))), some (.v (.int ((ed es e).t : Int))), none] := by
    simp! [bst_has]
  have hasg : assign (.v 6) (.v (fI e)) [some (.v (.tup (es.map eD))), some (.v S), s2, s3, some (.m (bst l)), s5, none, none, none, none] = some [some (.v (.tup (es.map eD))), some (.v S), s2, s3, some (.m (bst l)), s5, some (.v (fI e)), none, none, none] := by simp!
  have hB : B_least_steps_11 = .cons S_least_steps_2 (.cons (.ife Q_least_steps_3 (.cons S_least_steps_4 (.cons (.ife Q_least_steps_5 (.cons S_least_steps_6 .nil) .nil) .nil)) .nil) .nil) := rfl
  rw [rnd_eq, hasg, toFl_some, flb_next, kBody_eq, hB]
  cases hs : lkG l (ed es e).s with
  | none =>
    rw [hs] at a2
    rw [evSs_next a1 (evSs_next (ife_f (x := .cons S_least_steps_4 (.cons (.ife Q_least_steps_5 (.cons S_least_steps_6 .nil) .nil) .nil)) (y := .nil) a2 evSs_nil') evSs_nil'), kilF_next]
    have : relP es l e = l := by unfold relP; rw [hs]
    rw [this]
    simp!
  | some d =>
    rw [hs] at a2
    have a3 : evS C S_least_steps_4 [some (.v (.tup (es.map eD))), some (.v S), s2, s3, some (.m (bst l)), s5, some (.v (fI e)), some (.v (.int ((ed es e).s : Int))), some (.v (.int ((ed es e).t : Int))), none] = .next [some (.v (.tup (es.map eD))), some (.v S), s2, s3, some (.m (bst l)), s5, some (.v (fI e)), some (.v (.int ((ed es e).s : Int))), some (.v (.int ((ed es e).t : Int))), some (.v (.int ((d + (ed es e).c : Nat) : Int)))] := by
      simp! [fI, hed, bst_look, hs, nI]
    have hb : ∀ (c : Bool), evT C Q_least_steps_5 [some (.v (.tup (es.map eD))), some (.v S), s2, s3, some (.m (bst l)), s5, some (.v (fI e)), some (.v (.int ((ed es e).s : Int))), some (.v (.int ((ed es e).t : Int))), some (.v (.int ((d + (ed es e).c : Nat) : Int)))] = .ok c [some (.v (.tup (es.map eD))), some (.v S), s2, s3, some (.m (bst l)), s5, some (.v (fI e)), some (.v (.int ((ed es e).s : Int))), some (.v (.int ((ed es e).t : Int))), some (.v (.int ((d + (ed es e).c : Nat) : Int)))] →
        relP es l e = (if c = true then putG l (ed es e).t (d + (ed es e).c) else l) → kilF [6, 7, 8, 9] (evSs C (.cons S_least_steps_2 (.cons (.ife Q_least_steps_3 (.cons S_least_steps_4 (.cons (.ife Q_least_steps_5 (.cons S_least_steps_6 .nil) .nil) .nil)) .nil) .nil)) [some (.v (.tup (es.map eD))), some (.v S), s2, s3, some (.m (bst l)), s5, some (.v (fI e)), none, none, none]) = .next [some (.v (.tup (es.map eD))), some (.v S), s2, s3, some (.m (bst (relP es l e))), s5, none, none, none, none] := by
      intro c h4 hr
      rw [hr]
      cases c with
      | true =>
        have a5 : evS C S_least_steps_6 [some (.v (.tup (es.map eD))), some (.v S), s2, s3, some (.m (bst l)), s5, some (.v (fI e)), some (.v (.int ((ed es e).s : Int))), some (.v (.int ((ed es e).t : Int))), some (.v (.int ((d + (ed es e).c : Nat) : Int)))] = .next [some (.v (.tup (es.map eD))), some (.v S), s2, s3, some (.m (bst (putG l (ed es e).t (d + (ed es e).c)))), s5, some (.v (fI e)), some (.v (.int ((ed es e).s : Int))), some (.v (.int ((ed es e).t : Int))), some (.v (.int ((d + (ed es e).c : Nat) : Int)))] := by
          rw [← bst_put]
          generalize d + (ed es e).c = dc
          simp! [h1]
        rw [evSs_next a1 (evSs_next (ife_t (x := .cons S_least_steps_4 (.cons (.ife Q_least_steps_5 (.cons S_least_steps_6 .nil) .nil) .nil)) (y := .nil) a2 (evSs_next a3 (evSs_next (ife_t (x := .cons S_least_steps_6 .nil) (y := .nil) h4 (evSs_next a5 evSs_nil')) evSs_nil'))) evSs_nil'), kilF_next]
        simp!
      | false =>
        rw [evSs_next a1 (evSs_next (ife_t (x := .cons S_least_steps_4 (.cons (.ife Q_least_steps_5 (.cons S_least_steps_6 .nil) .nil) .nil)) (y := .nil) a2 (evSs_next a3 (evSs_next (ife_f (x := .cons S_least_steps_6 .nil) (y := .nil) h4 evSs_nil') evSs_nil'))) evSs_nil'), kilF_next]
        simp!
    cases ht : lkG l (ed es e).t with
    | none =>
      refine hb true ?_ (by unfold relP; rw [hs, ht]; rfl)
      generalize d + (ed es e).c = dc
      simp! [bst_has, ht]
    | some d' =>
      refine hb (decide (d + (ed es e).c < d')) ?_ (by unfold relP; rw [hs, ht]; simp)
      generalize d + (ed es e).c = dc
      have : decide ((dc : Int) < (d' : Int)) = decide (dc < d') := by congr 1; apply propext; omega
      simp! [bst_has, bst_look, ht, nI, this]
theorem least_inner {C : Ctx} {l : List (Nat × Nat)} (hS : itemsOf S = some (sm.map fI)) (hN : N ≤ 20) (hG : Good es N) (hl : Ks N l) : evS C S_least_steps_12 [some (.v (.tup (es.map eD))), some (.v S), s2, s3, some (.m (bst l)), s5, none, none, none, none] = .next [some (.v (.tup (es.map eD))), some (.v S), s2, s3, some (.m (bst (sm.foldl (relP es) l))), s5, none, none, none, none] ∧ Ks N (sm.foldl (relP es) l) := by
  have hL := forL_fold (body := rnd C (.v 6) B_least_steps_11 [6, 7, 8, 9]) (fun l : List (Nat × Nat) => [some (.v (.tup (es.map eD))), some (.v S), s2, s3, some (.m (bst l)), s5, none, none, none, none]) (relP es) (Ks N) fI (l := sm) (b := l) hl fun e _ b hb => ⟨.inl (least_step (by have := hb.len; omega)), hb.rel hG e⟩
  refine ⟨?_, hL.2⟩
  have hd1 : evDs C (.cons (.v 1) .nil) [some (.v (.tup (es.map eD))), some (.v S), s2, s3, some (.m (bst l)), s5, none, none, none, none] = .ok [S] [some (.v (.tup (es.map eD))), some (.v S), s2, s3, some (.m (bst l)), s5, none, none, none, none] := by simp!
  have hfg : forget [6, 7, 8, 9] [some (.v (.tup (es.map eD))), some (.v S), s2, s3, some (.m (bst l)), s5, none, none, none, none] = [some (.v (.tup (es.map eD))), some (.v S), s2, s3, some (.m (bst l)), s5, none, none, none, none] := by simp!
  rw [uS_least_steps_12, evS_forK, hd1, outf_ok, kFor_eq, walk_val, hS, ofO_some, outf_ok, hfg]
  exact hL.1
end
theorem e7 (k : Nat) (es : List Ed) (sm : List (Fin es.length)) (S : D) (N f g : Nat) (hS : itemsOf S = some (sm.map fI)) (hN : N ≤ 20) (hs : sm.length ≤ 20) (hG : Good es N) (hf : f < N) : cf (k + 2) 7 [.v (.tup (es.map eD)), .v S, .v (.int (f : Int)), .v (.int (g : Int))] = .ok (.v ((itR (edg es sm) ((plc es sm N).length + 1) (st0 f) g).elim .non nI)) [] := by
  have h2 := e2 k es sm S N hS hs hG
  have hpl : (plc es sm N).length ≤ 1000 := by
    have : (plc es sm N).length ≤ (List.range N).length := List.length_filter_le _ _
    simp at this
    omega
  have hw := walk_r1 (plc es sm N).length hpl
  have hk0 : Ks N [(f, 0)] := ⟨by simp, by simpa using hf⟩
  have hL := forL_fold (body := rnd (Ko (k + 1)) (.v 5) B_least_steps_13 [5, 6, 7, 8, 9]) (fun l : List (Nat × Nat) => [some (.v (.tup (es.map eD))), some (.v S), some (.v (.int (f : Int))), some (.v (.int (g : Int))), some (.m (bst l)), none, none, none, none, none]) (fun l (_ : Nat) => sm.foldl (relP es) l) (Ks N) (fun (k : Nat) => D.int (k : Int)) (l := List.range ((plc es sm N).length + 1)) (b := [(f, 0)]) hk0 fun i _ b hb => by
    have h := least_inner (C := Ko (k + 1)) (s2 := some (.v (.int (f : Int)))) (s3 := some (.v (.int (g : Int)))) (s5 := some (.v (.int (i : Int)))) hS hN hG hb
    refine ⟨.inl ?_, h.2⟩
    have hasg : assign (.v 5) (.v (.int (i : Int))) [some (.v (.tup (es.map eD))), some (.v S), some (.v (.int (f : Int))), some (.v (.int (g : Int))), some (.m (bst b)), none, none, none, none, none] = some [some (.v (.tup (es.map eD))), some (.v S), some (.v (.int (f : Int))), some (.v (.int (g : Int))), some (.m (bst b)), some (.v (.int (i : Int))), none, none, none, none] := by simp!
    have hB : B_least_steps_13 = .cons S_least_steps_12 .nil := rfl
    rw [rnd_eq, hasg, toFl_some, flb_next, kBody_eq, hB, evSs_next h.1 evSs_nil', kilF_next]
    simp!
  rw [foldI (fun l => sm.foldl (relP es) l) _ _ (itP es sm) (fun _ _ => rfl) (fun _ => rfl), List.length_range] at hL
  have hF := itP_F es sm ((plc es sm N).length + 1) [(f, 0)]
  rw [st_0] at hF
  rw [← hF]
  generalize itP es sm ((plc es sm N).length + 1) [(f, 0)] = X at hL
  have a1 : evS (Ko (k + 1)) S_least_steps_1 [some (.v (.tup (es.map eD))), some (.v S), some (.v (.int (f : Int))), some (.v (.int (g : Int))), none, none, none, none, none, none] = .next [some (.v (.tup (es.map eD))), some (.v S), some (.v (.int (f : Int))), some (.v (.int (g : Int))), some (.m (bst [(f, 0)])), none, none, none, none, none] := by
    have : o_dic [.int (f : Int), .int 0] = some (.m (bst [(f, 0)])) := by
      simp [o_dic, pairUp, keyOk, mputs, mput, mhas, mlook, bst, kvG, nI]
    simp! [this]
  have a2 : evS (Ko (k + 1)) S_least_steps_14 [some (.v (.tup (es.map eD))), some (.v S), some (.v (.int (f : Int))), some (.v (.int (g : Int))), some (.m (bst [(f, 0)])), none, none, none, none, none] = .next [some (.v (.tup (es.map eD))), some (.v S), some (.v (.int (f : Int))), some (.v (.int (g : Int))), some (.m (bst X)), none, none, none, none, none] := by
    have hL1 := hL.1
    simp! [evS_forK, -uB_least_steps_13, h2, hw, hL1]
  have a3 : evS (Ko (k + 1)) S_least_steps_15 [some (.v (.tup (es.map eD))), some (.v S), some (.v (.int (f : Int))), some (.v (.int (g : Int))), some (.m (bst X)), none, none, none, none, none] = .ret (.v ((lkG X g).elim .non nI)) [some (.v (.tup (es.map eD))), some (.v S), some (.v (.int (f : Int))), some (.v (.int (g : Int))), some (.m (bst X)), none, none, none, none, none] := by
    have h5 := bst_look X g
    cases hx : lkG X g with
    | none => rw [hx] at h5; simp! [h5]
    | some w => rw [hx] at h5; simp! [h5]
  have e := evSs_next a1 (evSs_next a2 (evSs_ret (ss := .nil) a3))
  rw [d7 _ _ rfl]
  have e' : ([R.v (.tup (es.map eD)), R.v S, R.v (.int (f : Int)), R.v (.int (g : Int))].map some ++ List.replicate (10 - 4) none : Env) = [some (.v (.tup (es.map eD))), some (.v S), some (.v (.int (f : Int))), some (.v (.int (g : Int))), none, none, none, none, none, none] := rfl
  have hb : b_least_steps = .cons S_least_steps_1 (.cons S_least_steps_14 (.cons S_least_steps_15 .nil)) := rfl
  rw [e', hb, e]
  rfl
end Tk06
end
section
/-! K06m: the law's turn: what is drawn. -/
namespace Tk06
open Pv Pu
local macro_rules
  | `(tactic| simp! $[$l:location]?) => `(tactic| simp (maxDischargeDepth := 12) [-Option.bind_some, ob_some, Pv.get, Op.keeps, fetchs, fetch, opD, o_tup, o_lst, o_add, o_sub, o_mul, o_fdiv, o_mod, o_pow, o_neg, o_eq, o_ne, o_lt, o_gt, o_le, o_ge, o_in_, o_nin, o_isN, o_isnN, o_sl, o_len, o_abs, o_max, o_min, o_tupleOf, o_listOf, o_intOf, o_isi, o_get, o_get2, bounds, slD, dlook, flatD, keyOk, backs, ioFits, assigns, forget, T.slots, T.slotss, noOwn, frzSlot, sets, argsOf, iosOf, noDup, putBacks, setAt, putIx, subL, slotsG, isElt] $[$l]?)
  | `(tactic| simp! [$as,*] $[$l:location]?) => `(tactic| simp (maxDischargeDepth := 12) [-Option.bind_some, ob_some, Pv.get, Op.keeps, fetchs, fetch, opD, o_tup, o_lst, o_add, o_sub, o_mul, o_fdiv, o_mod, o_pow, o_neg, o_eq, o_ne, o_lt, o_gt, o_le, o_ge, o_in_, o_nin, o_isN, o_isnN, o_sl, o_len, o_abs, o_max, o_min, o_tupleOf, o_listOf, o_intOf, o_isi, o_get, o_get2, bounds, slD, dlook, flatD, keyOk, backs, ioFits, assigns, forget, T.slots, T.slotss, noOwn, frzSlot, sets, argsOf, iosOf, noDup, putBacks, setAt, putIx, subL, slotsG, isElt, $as,*] $[$l]?)

theorem t11 : tbl 11 = some ⟨2, 8, [false, false], bDraws⟩ := rfl
theorem t12 : tbl 12 = some ⟨2, 2, [true, false], bNext⟩ := rfl
theorem t14 : tbl 14 = some ⟨2, 8, [false, false], bSame⟩ := rfl
theorem e12 (k : Nat) (ds : List Int) (i n : Int) (hn : 0 < n) (hi : 0 ≤ i) : cf (k + 1) 12 [W ds i, .v (.int n)] = .ok (.v (.int (nxt ds i n))) [W ds (i + 1)] := next_eq t12 ds i n k hn hi
@[simp] theorem own_W (ds : List Int) (i : Int) : (W ds i).own = true := rfl
@[simp] theorem kind_W (ds : List Int) (i : Int) : kind (W ds i).frz = 6 := rfl
/-- what _law_same can look at -/
def Gd (d : D) : Prop := noDic d = true ∧ dep d ≤ 50 ∧ sz d ≤ 90000
@[simp] theorem Gd_b (b : Bool) : Gd (.bl b) := ⟨rfl, by simp [dep], by simp [sz]⟩
@[simp] theorem Gd_i (b : Int) : Gd (.int b) := ⟨rfl, by simp [dep], by simp [sz]⟩
@[simp] theorem Gd_n : Gd .non := ⟨rfl, by simp [dep], by simp [sz]⟩
@[simp] theorem e14 (k : Nat) (d : D) (h : Gd d) : cf (k + 1) 14 [.v d, .v d] = .ok (.v (.bl true)) [] := same_eq t14 d k h.1 h.2.1 h.2.2
theorem szs_map {α : Type} (f : α → D) (n : Nat) (l : List α) (h : ∀ x, sz (f x) ≤ n) : szs (l.map f) ≤ n * l.length := by
  induction l with
  | nil => simp [szs]
  | cons a l ih =>
    have := h a
    rw [List.map_cons, szs, List.length_cons, Nat.mul_succ]
    omega
theorem Gd_map {α : Type} (f : α → D) (l : List α) (n : Nat) (h1 : ∀ x, noDic (f x) = true) (h2 : ∀ x, dep (f x) ≤ 40) (h3 : ∀ x, sz (f x) ≤ n) (hl : n * l.length ≤ 80000) : Gd (.tup (l.map f)) := by
  have e1 := deps_map f 40 l h2
  have e2 := szs_map f n l h3
  exact ⟨noDics_map f l h1, by simp only [dep]; omega, by simp only [sz]; omega⟩
theorem Gd_nI (l : List Nat) (h : l.length ≤ 1000) : Gd (.tup (l.map nI)) := Gd_map nI l 1 (fun _ => rfl) (fun _ => by simp [nI, dep]) (fun _ => by simp [nI, sz]) (by omega)
theorem Gd_rowN (l : List Nat) (h : l.length ≤ 1000) : Gd (rowN l) := Gd_nI l h
theorem Gd_fI {es : List Ed} (l : List (Fin es.length)) (h : l.length ≤ 1000) : Gd (.tup (l.map fI)) := Gd_map fI l 1 (fun _ => rfl) (fun _ => by simp [fI, dep]) (fun _ => by simp [fI, sz]) (by omega)
/-- the indices of all edges -/
def fins (n : Nat) : List (Fin n) := (List.range n).attach.map fun k => ⟨k.1, List.mem_range.mp k.2⟩
theorem fins_val (n : Nat) : (fins n).map Fin.val = List.range n := by
  unfold fins
  rw [List.map_map]
  exact List.attach_map_subtype_val _
theorem fins_D (es : List Ed) : (List.range es.length).map (fun (k : Nat) => D.int (k : Int)) = (fins es.length).map fI := by
  rw [← fins_val, List.map_map]
  rfl
theorem fins_len (n : Nat) : (fins n).length = n := by
  have := congrArg List.length (fins_val n)
  simpa using this
section
variable {ds : List Int} {s0 s1 s2 s3 s4 s5 s6 s7 s8 s9 s10 s11 s12 s13 s14 s15 s16 s17 s18 s19 s20 s21 s22 s23 s24 s25 s26 s27 : Option R}
theorem q2 (k : Nat) {i : Int} (hi : 0 ≤ i) : ∃ (i' : Int) (N : Nat), 0 ≤ i' ∧ 2 ≤ N ∧ N ≤ 7 ∧ evS (Ko (k + 10)) S_law_2 [s0, some (W ds i), s2, s3, s4, s5, s6, s7, s8, s9, s10, s11, s12, s13, s14, s15, s16, s17, s18, s19, s20, s21, s22, s23, s24, s25, s26, s27] = .next [s0, some (W ds i'), s2, some (.v (.int (N : Int))), some (.l (([] : List Ed).map eD)), s5, s6, s7, s8, s9, s10, s11, s12, s13, s14, s15, s16, s17, s18, s19, s20, s21, s22, s23, s24, s25, s26, s27] := by
  have b1 := nxt_lo ds i 6 (by omega)
  have b2 := nxt_hi ds i 6 (by omega)
  obtain ⟨N, hN⟩ : ∃ N : Nat, 2 + nxt ds i 6 = (N : Int) := ⟨(2 + nxt ds i 6).toNat, by omega⟩
  have e0 := e12 (k + 9) ds i 6 (by omega) hi
  refine ⟨i + 1, N, by omega, by omega, by omega, ?_⟩
  simp! [e0, hN]
theorem edge_app {C : Ctx} {N : Nat} (i12 : C.io 12 = [true, false]) (k12 : ∀ i n, 0 ≤ i → 0 < n → C.cf 12 [W ds i, .v (.int n)] = .ok (.v (.int (nxt ds i n))) [W ds (i + 1)]) {i : Int} (hi : 0 ≤ i) (hN : 2 ≤ N) (es : List Ed) (hl : es.length ≤ 1000) (d : D) :
    ∃ (e : Ed), e.s < N ∧ e.t < N ∧ rnd C (.v 5) B_law_4 [5] d [s0, some (W ds i), s2, some (.v (.int (N : Int))), some (.l (es.map eD)), none, s6, s7, s8, s9, s10, s11, s12, s13, s14, s15, s16, s17, s18, s19, s20, s21, s22, s23, s24, s25, s26, s27] = .next [s0, some (W ds (i + 1 + 1 + 1)), s2, some (.v (.int (N : Int))), some (.l ((es ++ [e]).map eD)), none, s6, s7, s8, s9, s10, s11, s12, s13, s14, s15, s16, s17, s18, s19, s20, s21, s22, s23, s24, s25, s26, s27] := by
  have a1 := k12 i N hi (by omega)
  have a2 := k12 (i + 1) N (by omega) (by omega)
  have a3 := k12 (i + 1 + 1) 4 (by omega) (by omega)
  have l1 := nxt_lo ds i N (by omega)
  have l2 := nxt_lo ds (i + 1) N (by omega)
  have l3 := nxt_lo ds (i + 1 + 1) 4 (by omega)
  have u1 := nxt_hi ds i N (by omega)
  have u2 := nxt_hi ds (i + 1) N (by omega)
  obtain ⟨s, hs⟩ : ∃ s : Nat, nxt ds i N = (s : Int) := ⟨_, (Int.toNat_of_nonneg l1).symm⟩
  obtain ⟨t, ht⟩ : ∃ s : Nat, nxt ds (i + 1) N = (s : Int) := ⟨_, (Int.toNat_of_nonneg l2).symm⟩
  obtain ⟨c, hc⟩ : ∃ s : Nat, nxt ds (i + 1 + 1) 4 = (s : Int) := ⟨_, (Int.toNat_of_nonneg l3).symm⟩
  rw [hs] at a1 u1
  rw [ht] at a2 u2
  rw [hc] at a3
  have hl' : es.length ≤ 100000 := by omega
  refine ⟨⟨s, t, c⟩, by simp only []; omega, by simp only []; omega, ?_⟩
  simp! [i12, a1, a2, a3, hl', eD, nI]
end
end Tk06
end
section
/-! K06n: the law's turn: edges, what is chosen, pairs, what lies behind. -/
namespace Tk06
open Pv Pu
local macro_rules
  | `(tactic| simp! $[$l:location]?) => `(tactic| simp (maxDischargeDepth := 12) [-Option.bind_some, ob_some, Pv.get, Op.keeps, fetchs, fetch, opD, o_tup, o_lst, o_add, o_sub, o_mul, o_fdiv, o_mod, o_pow, o_neg, o_eq, o_ne, o_lt, o_gt, o_le, o_ge, o_in_, o_nin, o_isN, o_isnN, o_sl, o_len, o_abs, o_max, o_min, o_tupleOf, o_listOf, o_intOf, o_isi, o_get, o_get2, bounds, slD, dlook, flatD, keyOk, backs, ioFits, assigns, forget, T.slots, T.slotss, noOwn, frzSlot, sets, argsOf, iosOf, noDup, putBacks, setAt, putIx, subL, slotsG, isElt] $[$l]?)
  | `(tactic| simp! [$as,*] $[$l:location]?) => `(tactic| simp (maxDischargeDepth := 12) [-Option.bind_some, ob_some, Pv.get, Op.keeps, fetchs, fetch, opD, o_tup, o_lst, o_add, o_sub, o_mul, o_fdiv, o_mod, o_pow, o_neg, o_eq, o_ne, o_lt, o_gt, o_le, o_ge, o_in_, o_nin, o_isN, o_isnN, o_sl, o_len, o_abs, o_max, o_min, o_tupleOf, o_listOf, o_intOf, o_isi, o_get, o_get2, bounds, slD, dlook, flatD, keyOk, backs, ioFits, assigns, forget, T.slots, T.slotss, noOwn, frzSlot, sets, argsOf, iosOf, noDup, putBacks, setAt, putIx, subL, slotsG, isElt, $as,*] $[$l]?)

theorem io12 (k : Nat) : (Ko k).io 12 = [true, false] := rfl
section
variable {ds : List Int} {s0 s1 s2 s3 s4 s5 s6 s7 s8 s9 s10 s11 s12 s13 s14 s15 s16 s17 s18 s19 s20 s21 s22 s23 s24 s25 s26 s27 : Option R}
theorem edges_loop {C : Ctx} {N : Nat} (i12 : C.io 12 = [true, false]) (k12 : ∀ i n, 0 ≤ i → 0 < n → C.cf 12 [W ds i, .v (.int n)] = .ok (.v (.int (nxt ds i n))) [W ds (i + 1)]) (hN : 2 ≤ N) : ∀ (l : List Nat) (i : Int) (es : List Ed), 0 ≤ i → es.length + l.length ≤ 900 → (∀ e ∈ es, e.s < N ∧ e.t < N) →
    ∃ (i' : Int) (es' : List Ed), 0 ≤ i' ∧ es'.length = es.length + l.length ∧ (∀ e ∈ es', e.s < N ∧ e.t < N) ∧ forL (rnd C (.v 5) B_law_4 [5]) (l.map fun (k : Nat) => D.int (k : Int)) [s0, some (W ds i), s2, some (.v (.int (N : Int))), some (.l (es.map eD)), none, s6, s7, s8, s9, s10, s11, s12, s13, s14, s15, s16, s17, s18, s19, s20, s21, s22, s23, s24, s25, s26, s27] = .next [s0, some (W ds i'), s2, some (.v (.int (N : Int))), some (.l (es'.map eD)), none, s6, s7, s8, s9, s10, s11, s12, s13, s14, s15, s16, s17, s18, s19, s20, s21, s22, s23, s24, s25, s26, s27]
  | [], i, es, hi, _, hg => ⟨i, es, hi, rfl, hg, rfl⟩
  | x :: l, i, es, hi, hl, hg => by
    rw [List.length_cons] at hl
    obtain ⟨e, h1, h2, h3⟩ := edge_app (s0 := s0) (s2 := s2) (s6 := s6) (s7 := s7) (s8 := s8) (s9 := s9) (s10 := s10) (s11 := s11) (s12 := s12) (s13 := s13) (s14 := s14) (s15 := s15) (s16 := s16) (s17 := s17) (s18 := s18) (s19 := s19) (s20 := s20) (s21 := s21) (s22 := s22) (s23 := s23) (s24 := s24) (s25 := s25) (s26 := s26) (s27 := s27) i12 k12 hi hN es (by omega) (.int (x : Int))
    obtain ⟨i', es', g1, g2, g3, g4⟩ := edges_loop i12 k12 hN l (i + 1 + 1 + 1) (es ++ [e]) (by omega) (by simp; omega) (by
      intro f hf
      rcases List.mem_append.mp hf with hf | hf
      · exact hg f hf
      · simp at hf; subst hf; exact ⟨h1, h2⟩)
    refine ⟨i', es', g1, by simp at g2 ⊢; omega, g3, ?_⟩
    rw [List.map_cons, forL_cons, h3]
    exact g4
theorem good_of {es : List Ed} {N : Nat} (h : ∀ e ∈ es, e.s < N ∧ e.t < N) : Good es N := ⟨fun k => (h _ (List.getElem_mem _)).1, fun k => (h _ (List.getElem_mem _)).2⟩
theorem q5 (k : Nat) {i : Int} {N : Nat} (hi : 0 ≤ i) (hN : 2 ≤ N) (h5 : s5 = none) : ∃ (i' : Int) (es : List Ed), 0 ≤ i' ∧ es.length ≤ 10 ∧ Good es N ∧ evS (Ko (k + 10)) S_law_5 [s0, some (W ds i), s2, some (.v (.int (N : Int))), some (.l (([] : List Ed).map eD)), s5, s6, s7, s8, s9, s10, s11, s12, s13, s14, s15, s16, s17, s18, s19, s20, s21, s22, s23, s24, s25, s26, s27] = .next [s0, some (W ds i'), s2, some (.v (.int (N : Int))), some (.l (es.map eD)), none, s6, s7, s8, s9, s10, s11, s12, s13, s14, s15, s16, s17, s18, s19, s20, s21, s22, s23, s24, s25, s26, s27] := by
  subst h5
  have b1 := nxt_lo ds i 11 (by omega)
  have b2 := nxt_hi ds i 11 (by omega)
  obtain ⟨m, hm⟩ : ∃ m : Nat, nxt ds i 11 = (m : Int) := ⟨_, (Int.toNat_of_nonneg b1).symm⟩
  have e0 := e12 (k + 9) ds i 11 (by omega) hi
  rw [hm] at e0 b2
  obtain ⟨i', es, g1, g2, g3, g4⟩ := edges_loop (C := Ko (k + 10)) (ds := ds) (s0 := s0) (s2 := s2) (s6 := s6) (s7 := s7) (s8 := s8) (s9 := s9) (s10 := s10) (s11 := s11) (s12 := s12) (s13 := s13) (s14 := s14) (s15 := s15) (s16 := s16) (s17 := s17) (s18 := s18) (s19 := s19) (s20 := s20) (s21 := s21) (s22 := s22) (s23 := s23) (s24 := s24) (s25 := s25) (s26 := s26) (s27 := s27) rfl (fun i n hi hn => e12 (k + 9) ds i n hn hi) hN (List.range m) (i + 1) [] (by omega) (by simp; omega) nofun
  refine ⟨i', es, g1, by simp at g2; omega, good_of g3, ?_⟩
  have hw := walk_rn m (by omega)
  rw [List.map_nil] at g4 ⊢
  simp! [evS_forK, -uB_law_4, e0, hw, g4]
theorem q6 (k : Nat) {es : List Ed} (hl : es.length ≤ 10) : evS (Ko (k + 10)) S_law_6 [s0, s1, s2, s3, some (.l (es.map eD)), s5, s6, s7, s8, s9, s10, s11, s12, s13, s14, s15, s16, s17, s18, s19, s20, s21, s22, s23, s24, s25, s26, s27] = .next [s0, s1, s2, s3, some (.v (.tup (es.map eD))), s5, s6, s7, s8, s9, s10, s11, s12, s13, s14, s15, s16, s17, s18, s19, s20, s21, s22, s23, s24, s25, s26, s27] := by
  have h : es.length ≤ 100000 := by omega
  simp! [h]
theorem some_loop {C : Ctx} {n : Nat} (i12 : C.io 12 = [true, false]) (k12 : ∀ i n, 0 ≤ i → 0 < n → C.cf 12 [W ds i, .v (.int n)] = .ok (.v (.int (nxt ds i n))) [W ds (i + 1)]) (f : Fin n → D) (hf : ∀ k, f k = .int ((k.1 : Nat) : Int)) : ∀ (l : List (Fin n)) (i : Int) (acc : List D), 0 ≤ i → acc.length + l.length ≤ 900 →
    ∃ (i' : Int) (sm : List (Fin n)), 0 ≤ i' ∧ sm.Sublist l ∧ compL (turn1 C [5] (.v 5) (.cons (.op .gt (.cons (.call 12 (.cons (.v 1) (.cons (.c (.int 5)) .nil))) (.cons (.c (.int 0)) .nil))) .nil) (.elt (.v 5))) (l.map f) [s0, some (W ds i), s2, s3, s4, none, s6, s7, s8, s9, s10, s11, s12, s13, s14, s15, s16, s17, s18, s19, s20, s21, s22, s23, s24, s25, s26, s27] acc = .ok (acc ++ sm.map f) [s0, some (W ds i'), s2, s3, s4, none, s6, s7, s8, s9, s10, s11, s12, s13, s14, s15, s16, s17, s18, s19, s20, s21, s22, s23, s24, s25, s26, s27]
  | [], i, acc, hi, _ => ⟨i, [], hi, List.Sublist.refl _, by simp⟩
  | x :: l, i, acc, hi, hl => by
    rw [List.length_cons] at hl
    have ha' : acc.length ≤ 100000 := by omega
    by_cases h : nxt ds i 5 > 0
    · obtain ⟨i', sm, g1, g2, g3⟩ := some_loop i12 k12 f hf l (i + 1) (acc ++ [f x]) (by omega) (by simp; omega)
      refine ⟨i', x :: sm, g1, g2.cons_cons _, ?_⟩
      rw [List.map_cons, compL_cons, turn1_eq]
      rw [hf x] at g3
      simp! [i12, k12 i 5 hi, ha', h, hf x]
      rw [List.append_assoc] at g3
      exact g3
    · obtain ⟨i', sm, g1, g2, g3⟩ := some_loop i12 k12 f hf l (i + 1) acc (by omega) (by omega)
      refine ⟨i', sm, g1, g2.cons _, ?_⟩
      rw [List.map_cons, compL_cons, turn1_eq]
      simp! [i12, k12 i 5 hi, ha', h, hf x]
      exact g3
end
end Tk06
end
section
/-! K06o: the law's turn: what is chosen, pairs, what lies behind. -/
namespace Tk06
open Pv Pu
local macro_rules
  | `(tactic| simp! $[$l:location]?) => `(tactic| simp (maxDischargeDepth := 12) [-Option.bind_some, ob_some, Pv.get, Op.keeps, fetchs, fetch, opD, o_tup, o_lst, o_add, o_sub, o_mul, o_fdiv, o_mod, o_pow, o_neg, o_eq, o_ne, o_lt, o_gt, o_le, o_ge, o_in_, o_nin, o_isN, o_isnN, o_sl, o_len, o_abs, o_max, o_min, o_tupleOf, o_listOf, o_intOf, o_isi, o_get, o_get2, bounds, slD, dlook, flatD, keyOk, backs, ioFits, assigns, forget, T.slots, T.slotss, noOwn, frzSlot, sets, argsOf, iosOf, noDup, putBacks, setAt, putIx, subL, slotsG, isElt] $[$l]?)
  | `(tactic| simp! [$as,*] $[$l:location]?) => `(tactic| simp (maxDischargeDepth := 12) [-Option.bind_some, ob_some, Pv.get, Op.keeps, fetchs, fetch, opD, o_tup, o_lst, o_add, o_sub, o_mul, o_fdiv, o_mod, o_pow, o_neg, o_eq, o_ne, o_lt, o_gt, o_le, o_ge, o_in_, o_nin, o_isN, o_isnN, o_sl, o_len, o_abs, o_max, o_min, o_tupleOf, o_listOf, o_intOf, o_isi, o_get, o_get2, bounds, slD, dlook, flatD, keyOk, backs, ioFits, assigns, forget, T.slots, T.slotss, noOwn, frzSlot, sets, argsOf, iosOf, noDup, putBacks, setAt, putIx, subL, slotsG, isElt, $as,*] $[$l]?)

@[simp] theorem eD_sl (e : Ed) : o_sl false true [eD e, .int 2] = some (.v (pD (e.s, e.t))) := rfl
def lD (v : List Nat) : D := .lst (v.map nI)
/-- what lies behind each place, as the law keeps it -/
noncomputable def bL (es : List Ed) (sm : List (Fin es.length)) (N : Nat) : List (D × D) := kvG nI lD ((List.range N).map fun x => (x, Bh es sm N x))
theorem bL_look {es : List Ed} {sm : List (Fin es.length)} {N x : Nat} (hx : x < N) : mlook (bL es sm N) (.int (x : Int)) = some (lD (Bh es sm N x)) := by
  have h1 := mlook_kvG keyI lD ((List.range N).map fun x => (x, Bh es sm N x)) x
  have h2 := lkG_at (l := (List.range N).map fun x => (x, Bh es sm N x)) (by rw [List.map_map]; show ((List.range N).map fun x => x).Nodup; simpa using List.nodup_range) (List.mem_map.mpr ⟨x, List.mem_range.mpr hx, rfl⟩)
  simp only at h2
  rw [h2] at h1
  exact h1
section
variable {ds : List Int} {s0 s1 s2 s3 s4 s5 s6 s7 s8 s9 s10 s11 s12 s13 s14 s15 s16 s17 s18 s19 s20 s21 s22 s23 s24 s25 s26 s27 : Option R}
theorem q8' {C : Ctx} {i i' : Int} {es : List Ed} {sm : List (Fin es.length)} (hl : es.length ≤ 10) (hs : sm.length ≤ 10)
    (g4 : compL (turn1 C [5] (.v 5) (.cons (.op .gt (.cons (.call 12 (.cons (.v 1) (.cons (.c (.int 5)) .nil))) (.cons (.c (.int 0)) .nil))) .nil) (.elt (.v 5))) ((fins es.length).map fI) [s0, some (W ds i), s2, s3, some (.v (.tup (es.map eD))), none, s6, s7, s8, s9, s10, s11, s12, s13, s14, s15, s16, s17, s18, s19, s20, s21, s22, s23, s24, s25, s26, s27] [] = .ok (sm.map fI) [s0, some (W ds i'), s2, s3, some (.v (.tup (es.map eD))), none, s6, s7, s8, s9, s10, s11, s12, s13, s14, s15, s16, s17, s18, s19, s20, s21, s22, s23, s24, s25, s26, s27]) :
    evS C S_law_8 [s0, some (W ds i), s2, s3, some (.v (.tup (es.map eD))), none, s6, s7, s8, s9, s10, s11, s12, s13, s14, s15, s16, s17, s18, s19, s20, s21, s22, s23, s24, s25, s26, s27] = .next [s0, some (W ds i'), s2, s3, some (.v (.tup (es.map eD))), none, some (.v (.tup (sm.map fI))), s7, s8, s9, s10, s11, s12, s13, s14, s15, s16, s17, s18, s19, s20, s21, s22, s23, s24, s25, s26, s27] := by
  have h1 : es.length ≤ 100000 := by omega
  have h2 : sm.length ≤ 100000 := by omega
  have hw := walk_rn es.length h1
  rw [fins_D] at hw
  simp! [h1, h2, hw, g4, restore]
theorem q8 (k : Nat) {i : Int} {es : List Ed} (hi : 0 ≤ i) (hl : es.length ≤ 10) : ∃ (i' : Int) (sm : List (Fin es.length)), 0 ≤ i' ∧ sm.Sublist (fins es.length) ∧ sm.length ≤ 10 ∧
    evS (Ko (k + 10)) S_law_8 [s0, some (W ds i), s2, s3, some (.v (.tup (es.map eD))), none, s6, s7, s8, s9, s10, s11, s12, s13, s14, s15, s16, s17, s18, s19, s20, s21, s22, s23, s24, s25, s26, s27] = .next [s0, some (W ds i'), s2, s3, some (.v (.tup (es.map eD))), none, some (.v (.tup (sm.map fI))), s7, s8, s9, s10, s11, s12, s13, s14, s15, s16, s17, s18, s19, s20, s21, s22, s23, s24, s25, s26, s27] := by
  obtain ⟨i', sm, g1, g2, g3⟩ := some_loop (C := Ko (k + 10)) (ds := ds) (s0 := s0) (s2 := s2) (s3 := s3) (s4 := some (.v (.tup (es.map eD)))) (s6 := s6) (s7 := s7) (s8 := s8) (s9 := s9) (s10 := s10) (s11 := s11) (s12 := s12) (s13 := s13) (s14 := s14) (s15 := s15) (s16 := s16) (s17 := s17) (s18 := s18) (s19 := s19) (s20 := s20) (s21 := s21) (s22 := s22) (s23 := s23) (s24 := s24) (s25 := s25) (s26 := s26) (s27 := s27) rfl (fun i n hi hn => e12 (k + 9) ds i n hn hi) (fI (es := es)) (fun _ => rfl) (fins es.length) i [] hi (by simp [fins_len]; omega)
  have hs := g2.length_le
  rw [fins_len] at hs
  rw [List.nil_append] at g3
  exact ⟨i', sm, g1, g2, by omega, q8' hl (by omega) g3⟩
theorem q10 (k : Nat) {es : List Ed} {sm : List (Fin es.length)} (hs : sm.length ≤ 10) : evS (Ko k) S_law_10 [s0, s1, s2, s3, some (.v (.tup (es.map eD))), none, some (.v (.tup (sm.map fI))), s7, s8, s9, s10, s11, s12, s13, s14, s15, s16, s17, s18, s19, s20, s21, s22, s23, s24, s25, s26, s27] = .next [s0, s1, s2, s3, some (.v (.tup (es.map eD))), none, some (.v (.tup (sm.map fI))), some (.l ((prs es sm).map pD)), s8, s9, s10, s11, s12, s13, s14, s15, s16, s17, s18, s19, s20, s21, s22, s23, s24, s25, s26, s27] := by
  have h : sm.length ≤ 100000 := by omega
  have c : pv (Ko k) C_law_9 [s0, s1, s2, s3, some (.v (.tup (es.map eD))), none, some (.v (.tup (sm.map fI))), s7, s8, s9, s10, s11, s12, s13, s14, s15, s16, s17, s18, s19, s20, s21, s22, s23, s24, s25, s26, s27] = some (.l ((prs es sm).map pD)) := by
    rw [prs, List.map_map]
    refine pv_mapc (qs := [.tup (sm.map fI)]) fI _ (by simp!) (by simp!) (by rw [walk_val, items_t]) h fun e _ => ?_
    have hed : es[(e : Nat)] = ed es e := rfl
    simp! [fI, hed, -o_sl]
  simp! [-uC_law_9, c]
theorem q12 (k : Nat) {es : List Ed} {sm : List (Fin es.length)} (hs : sm.length ≤ 10) : evS (Ko k) S_law_12 [s0, s1, s2, s3, s4, s5, s6, some (.l ((prs es sm).map pD)), s8, s9, s10, s11, s12, s13, s14, s15, s16, s17, s18, s19, s20, s21, s22, s23, none, none, s26, s27] = .next [s0, s1, s2, s3, s4, s5, s6, some (.v (.lst ((prs es sm).map pD))), some (.l ((prt es sm).map pD)), s9, s10, s11, s12, s13, s14, s15, s16, s17, s18, s19, s20, s21, s22, s23, none, none, s26, s27] := by
  have h : sm.length ≤ 100000 := by omega
  have c : pv (Ko k) C_law_11 [s0, s1, s2, s3, s4, s5, s6, some (.v (.lst ((prs es sm).map pD))), s8, s9, s10, s11, s12, s13, s14, s15, s16, s17, s18, s19, s20, s21, s22, s23, none, none, s26, s27] = some (.l ((prt es sm).map pD)) := by
    have e1 : (prs es sm).map pD = sm.map fun k => pD ((ed es k).s, (ed es k).t) := by rw [prs, List.map_map]; rfl
    have e2 : (prt es sm).map pD = sm.map fun k => pD ((ed es k).t, (ed es k).s) := by rw [prt, List.map_map]; rfl
    rw [e1, e2]
    refine pv_mapc (qs := [.lst (sm.map fun k => pD ((ed es k).s, (ed es k).t))]) (fun k => pD ((ed es k).s, (ed es k).t)) _ (by simp!) (by simp!) (by rw [walk_val]; rfl) h fun e _ => ?_
    simp! [pD, nI]
  have c1 := pv_ok (C := Ko k) _ _ _ c
  have c2 : ev (Ko k) C_law_11 [s0, s1, s2, s3, s4, s5, s6, some (.l ((prs es sm).map pD)), s8, s9, s10, s11, s12, s13, s14, s15, s16, s17, s18, s19, s20, s21, s22, s23, none, none, s26, s27] = ev (Ko k) C_law_11 [s0, s1, s2, s3, s4, s5, s6, some (.v (.lst ((prs es sm).map pD))), s8, s9, s10, s11, s12, s13, s14, s15, s16, s17, s18, s19, s20, s21, s22, s23, none, none, s26, s27] := by
    generalize (prs es sm).map pD = L
    have h1 : evDs (Ko k) (.cons (.v 7) .nil) [s0, s1, s2, s3, s4, s5, s6, some (.l L), s8, s9, s10, s11, s12, s13, s14, s15, s16, s17, s18, s19, s20, s21, s22, s23, none, none, s26, s27] = .ok [.lst L] [s0, s1, s2, s3, s4, s5, s6, some (.v (.lst L)), s8, s9, s10, s11, s12, s13, s14, s15, s16, s17, s18, s19, s20, s21, s22, s23, none, none, s26, s27] := by simp!
    have h2 : evDs (Ko k) (.cons (.v 7) .nil) [s0, s1, s2, s3, s4, s5, s6, some (.v (.lst L)), s8, s9, s10, s11, s12, s13, s14, s15, s16, s17, s18, s19, s20, s21, s22, s23, none, none, s26, s27] = .ok [.lst L] [s0, s1, s2, s3, s4, s5, s6, some (.v (.lst L)), s8, s9, s10, s11, s12, s13, s14, s15, s16, s17, s18, s19, s20, s21, s22, s23, none, none, s26, s27] := by simp!
    rw [uC_law_11, ev_compK, ev_compK, h1, h2]
  rw [c1] at c2
  simp! [-uC_law_11, c2]
/-- the pairs, owned or frozen -/
def pR (es : List Ed) (sm : List (Fin es.length)) (q : Bool) : R := if q then .v (.lst ((prs es sm).map pD)) else .l ((prs es sm).map pD)
theorem e15x (k : Nat) {es : List Ed} {sm : List (Fin es.length)} {N x : Nat} (hs : sm.length ≤ 10) (hG : Good es N) (hx : x < N) : cf (k + 1) 15 [.v (.lst ((prs es sm).map pD)), .v (.lst [.int (x : Int)])] = .ok (.l ((Bh es sm N x).map nI)) [] :=
  e15 k (prs es sm) [x] N (by rw [prs_len]; omega) (by simp) (hG.prs sm) (by simpa using hx)
theorem beh_turn {k : Nat} {q : Bool} {es : List Ed} {sm : List (Fin es.length)} {N x : Nat} {acc : List D} (hs : sm.length ≤ 10) (hG : Good es N) (hx : x < N) (ha : acc.length ≤ 1000) :
    turn1 (Ko (k + 1)) [10] (.v 10) .nil (.elt (.op .tup (.cons (.v 10) (.cons (.call 15 (.cons (.v 7) (.cons (.op .lst (.cons (.v 10) .nil)) .nil))) .nil)))) (nI x) [s0, s1, s2, some (.v (.int (N : Int))), s4, s5, s6, some (pR es sm q), s8, s9, none, s11, s12, s13, s14, s15, s16, s17, s18, s19, s20, s21, s22, s23, s24, s25, s26, s27] acc = .ok (acc ++ [.tup [nI x, lD (Bh es sm N x)]]) [s0, s1, s2, some (.v (.int (N : Int))), s4, s5, s6, some (pR es sm true), s8, s9, none, s11, s12, s13, s14, s15, s16, s17, s18, s19, s20, s21, s22, s23, s24, s25, s26, s27] := by
  have h := e15x k hs hG hx
  have ha' : acc.length ≤ 100000 := by omega
  rw [turn1_eq]
  generalize hB : Bh es sm N x = B at h ⊢
  cases q <;> simp! [pR, nI, h, ha', lD]
theorem beh_comp {k : Nat} {es : List Ed} {sm : List (Fin es.length)} {N : Nat} (hs : sm.length ≤ 10) (hN : 2 ≤ N) (hN2 : N ≤ 20) (hG : Good es N) (q : Bool) :
    ev (Ko (k + 1)) C_law_13 [s0, s1, s2, some (.v (.int (N : Int))), s4, s5, s6, some (pR es sm q), s8, s9, none, s11, s12, s13, s14, s15, s16, s17, s18, s19, s20, s21, s22, s23, s24, s25, s26, s27] = .ok (.l ((List.range N).map fun x => .tup [nI x, lD (Bh es sm N x)])) [s0, s1, s2, some (.v (.int (N : Int))), s4, s5, s6, some (pR es sm true), s8, s9, none, s11, s12, s13, s14, s15, s16, s17, s18, s19, s20, s21, s22, s23, s24, s25, s26, s27] := by
  have hgo : ∀ (l : List Nat) (acc : List D) (q : Bool), (∀ n ∈ l, n < N) → acc.length + l.length ≤ 900 → (q = true ∨ l ≠ []) → compL (turn1 (Ko (k + 1)) [10] (.v 10) .nil (.elt (.op .tup (.cons (.v 10) (.cons (.call 15 (.cons (.v 7) (.cons (.op .lst (.cons (.v 10) .nil)) .nil))) .nil))))) (l.map nI) [s0, s1, s2, some (.v (.int (N : Int))), s4, s5, s6, some (pR es sm q), s8, s9, none, s11, s12, s13, s14, s15, s16, s17, s18, s19, s20, s21, s22, s23, s24, s25, s26, s27] acc =
      .ok (acc ++ l.map fun x => .tup [nI x, lD (Bh es sm N x)]) [s0, s1, s2, some (.v (.int (N : Int))), s4, s5, s6, some (pR es sm true), s8, s9, none, s11, s12, s13, s14, s15, s16, s17, s18, s19, s20, s21, s22, s23, s24, s25, s26, s27] := by
    intro l
    induction l with
    | nil =>
      intro acc q _ _ hq
      rcases hq with rfl | hq
      · simp
      · exact absurd rfl hq
    | cons n l ih =>
      intro acc q hl hacc _
      rw [List.length_cons] at hacc
      rw [List.map_cons, compL_cons, beh_turn hs hG (hl n List.mem_cons_self) (by omega)]
      simp only [outb_ok]
      rw [ih _ true (fun n hn => hl n (List.mem_cons_of_mem _ hn)) (by simp; omega) (.inl rfl)]
      simp
  have h1 := hgo (List.range N) [] q (fun n hn => List.mem_range.mp hn) (by simp; omega) (.inr (fun z => by have := congrArg List.length z; simp at this; omega))
  rw [List.nil_append] at h1
  have hd : evDs (Ko (k + 1)) (.cons (.v 3) .nil) [s0, s1, s2, some (.v (.int (N : Int))), s4, s5, s6, some (pR es sm q), s8, s9, none, s11, s12, s13, s14, s15, s16, s17, s18, s19, s20, s21, s22, s23, s24, s25, s26, s27] = .ok [.int (N : Int)] [s0, s1, s2, some (.v (.int (N : Int))), s4, s5, s6, some (pR es sm q), s8, s9, none, s11, s12, s13, s14, s15, s16, s17, s18, s19, s20, s21, s22, s23, s24, s25, s26, s27] := by simp!
  have hw := walk_rn N (by omega)
  rw [uC_law_13, ev_compK, hd, outb_ok, kComp_eq]
  have hno : noOwn [s0, s1, s2, some (.v (.int (N : Int))), s4, s5, s6, some (pR es sm q), s8, s9, none, s11, s12, s13, s14, s15, s16, s17, s18, s19, s20, s21, s22, s23, s24, s25, s26, s27] [10] = true := by cases q <;> simp! [pR]
  have hf : forget [10] [s0, s1, s2, some (.v (.int (N : Int))), s4, s5, s6, some (pR es sm q), s8, s9, none, s11, s12, s13, s14, s15, s16, s17, s18, s19, s20, s21, s22, s23, s24, s25, s26, s27] = [s0, s1, s2, some (.v (.int (N : Int))), s4, s5, s6, some (pR es sm q), s8, s9, none, s11, s12, s13, s14, s15, s16, s17, s18, s19, s20, s21, s22, s23, s24, s25, s26, s27] := by cases q <;> simp! [pR]
  rw [hno, if_pos rfl, hw]
  simp only
  rw [hf]
  have h2 : ((List.range N).map fun (k : Nat) => D.int (k : Int)) = (List.range N).map nI := rfl
  rw [h2, h1, outb_ok, kOut_eq]
  simp! [restore]
theorem q14 (k : Nat) {es : List Ed} {sm : List (Fin es.length)} {N : Nat} (hs : sm.length ≤ 10) (hN : 2 ≤ N) (hN2 : N ≤ 20) (hG : Good es N) : evS (Ko (k + 1)) S_law_14 [s0, s1, s2, some (.v (.int (N : Int))), s4, s5, s6, some (.v (.lst ((prs es sm).map pD))), s8, s9, none, s11, s12, s13, s14, s15, s16, s17, s18, s19, s20, s21, s22, s23, s24, s25, s26, s27] = .next [s0, s1, s2, some (.v (.int (N : Int))), s4, s5, s6, some (.v (.lst ((prs es sm).map pD))), s8, some (.m (bL es sm N)), none, s11, s12, s13, s14, s15, s16, s17, s18, s19, s20, s21, s22, s23, s24, s25, s26, s27] := by
  have c := beh_comp (k := k) (s0 := s0) (s1 := s1) (s2 := s2) (s4 := s4) (s5 := s5) (s6 := s6) (s8 := s8) (s9 := s9) (s11 := s11) (s12 := s12) (s13 := s13) (s14 := s14) (s15 := s15) (s16 := s16) (s17 := s17) (s18 := s18) (s19 := s19) (s20 := s20) (s21 := s21) (s22 := s22) (s23 := s23) (s24 := s24) (s25 := s25) (s26 := s26) (s27 := s27) hs hN hN2 hG true
  have hd := dict_kvG keyI lD (l := (List.range N).map fun x => (x, Bh es sm N x)) (by rw [List.map_map]; show ((List.range N).map fun x => x).Nodup; simpa using List.nodup_range)
  rw [List.map_map] at hd
  have hd' : o_dictOf [.lst ((List.range N).map fun x => .tup [nI x, lD (Bh es sm N x)])] = some (.m (bL es sm N)) := hd
  simp only [pR, if_true] at c
  simp! [-uC_law_13, c, hd']
end
end Tk06
end
section
/-! K06p: the law's turn: what lies behind and ahead. -/
namespace Tk06
open Pv Pu
local macro_rules
  | `(tactic| simp! $[$l:location]?) => `(tactic| simp (maxDischargeDepth := 12) [-Option.bind_some, ob_some, Pv.get, Op.keeps, fetchs, fetch, opD, o_tup, o_lst, o_add, o_sub, o_mul, o_fdiv, o_mod, o_pow, o_neg, o_eq, o_ne, o_lt, o_gt, o_le, o_ge, o_in_, o_nin, o_isN, o_isnN, o_sl, o_len, o_abs, o_max, o_min, o_tupleOf, o_listOf, o_intOf, o_isi, o_get, o_get2, bounds, slD, dlook, flatD, keyOk, backs, ioFits, assigns, forget, T.slots, T.slotss, noOwn, frzSlot, sets, argsOf, iosOf, noDup, putBacks, setAt, putIx, subL, slotsG, isElt] $[$l]?)
  | `(tactic| simp! [$as,*] $[$l:location]?) => `(tactic| simp (maxDischargeDepth := 12) [-Option.bind_some, ob_some, Pv.get, Op.keeps, fetchs, fetch, opD, o_tup, o_lst, o_add, o_sub, o_mul, o_fdiv, o_mod, o_pow, o_neg, o_eq, o_ne, o_lt, o_gt, o_le, o_ge, o_in_, o_nin, o_isN, o_isnN, o_sl, o_len, o_abs, o_max, o_min, o_tupleOf, o_listOf, o_intOf, o_isi, o_get, o_get2, bounds, slD, dlook, flatD, keyOk, backs, ioFits, assigns, forget, T.slots, T.slotss, noOwn, frzSlot, sets, argsOf, iosOf, noDup, putBacks, setAt, putIx, subL, slotsG, isElt, $as,*] $[$l]?)

def tR (es : List Ed) (sm : List (Fin es.length)) (q : Bool) : R := if q then .v (.lst ((prt es sm).map pD)) else .l ((prt es sm).map pD)
theorem RL_len (ps : List (Nat × Nat)) (A : List Nat) (N : Nat) : (RL ps A N).length ≤ N := by
  unfold RL
  have := List.length_filter_le (fun b => @decide (Reach ps A b) (Classical.propDecidable _)) (List.range N)
  simpa using this
theorem it_sm {es : List Ed} (sm : List (Fin es.length)) : itemsOf (.tup (sm.map fI)) = some (sm.map fI) := rfl
section
variable {ds : List Int} {s0 s1 s2 s3 s4 s5 s6 s7 s8 s9 s10 s11 s12 s13 s14 s15 s16 s17 s18 s19 s20 s21 s22 s23 s24 s25 s26 s27 : Option R} {es : List Ed} {sm : List (Fin es.length)} {N : Nat}
theorem q19 (k : Nat) {p : Nat} {q : Bool} (hs : sm.length ≤ 10) (hN2 : N ≤ 20) (hG : Good es N) (hp : p < N) : evS (Ko (k + 1)) S_law_19 [s0, s1, s2, s3, some (.v (.tup (es.map eD))), s5, some (.v (.tup (sm.map fI))), s7, some (tR es sm q), some (.m (bL es sm N)), some (.v (.int (p : Int))), s11, s12, s13, s14, s15, s16, s17, s18, s19, s20, s21, s22, s23, s24, s25, s26, s27] = .next [s0, s1, s2, s3, some (.v (.tup (es.map eD))), s5, some (.v (.tup (sm.map fI))), s7, some (tR es sm true), some (.m (bL es sm N)), some (.v (.int (p : Int))), s11, s12, s13, s14, s15, s16, s17, s18, s19, s20, s21, s22, s23, s24, s25, s26, s27] := by
  have h0 : cf (k + 1) 0 [.v (.tup (es.map eD)), .v (.tup (sm.map fI)), .v (.tup [.int (p : Int)])] = .ok (.v (.tup ((Bh es sm N p).map nI))) [] := e0 k es sm (.tup (sm.map fI)) [p] N (it_sm sm) hN2 (by omega) (hG.prs sm) (by simpa using hp) (by simp)
  have h1 : cf (k + 1) 1 [.v (.tup (es.map eD)), .v (.tup (sm.map fI)), .v (.tup [.int (p : Int)])] = .ok (.v (.tup ((RL (prt es sm) [p] N).map nI))) [] := e1 k es sm (.tup (sm.map fI)) [p] N (it_sm sm) hN2 (by omega) (hG.prt sm) (by simpa using hp) (by simp)
  have h15 : cf (k + 1) 15 [.v (.lst ((prt es sm).map pD)), .v (.lst [.int (p : Int)])] = .ok (.l ((RL (prt es sm) [p] N).map nI)) [] := e15 k (prt es sm) [p] N (by rw [prt_len]; omega) (by simp) (hG.prt sm) (by simpa using hp)
  have hb : mlook (bL es sm N) (.int (p : Int)) = some (.lst ((Bh es sm N p).map nI)) := bL_look hp
  have l1 := RL_len (prs es sm) [p] N
  have l2 := RL_len (prt es sm) [p] N
  change (Bh es sm N p).length ≤ N at l1
  have g1 := Gd_nI (Bh es sm N p) (by omega)
  have g2 := Gd_nI (RL (prt es sm) [p] N) (by omega)
  have m1 : (Bh es sm N p).length ≤ 100000 := by omega
  have m2 : (RL (prt es sm) [p] N).length ≤ 100000 := by omega
  generalize Bh es sm N p = B1 at h0 hb g1 m1
  generalize RL (prt es sm) [p] N = B2 at h1 h15 g2 m2
  generalize bL es sm N = BL at hb ⊢
  cases q <;> simp! [h0, h1, h15, hb, g1, g2, m1, m2, tR]
theorem q15 (k : Nat) {i : Int} (hi : 0 ≤ i) (hN : 2 ≤ N) : ∃ o : Nat, o < N ∧ evS (Ko (k + 1)) S_law_15 [s0, some (W ds i), s2, some (.v (.int (N : Int))), s4, s5, s6, s7, s8, s9, s10, s11, s12, s13, s14, s15, s16, s17, s18, s19, s20, s21, s22, s23, s24, s25, s26, s27] = .next [s0, some (W ds (i + 1)), s2, some (.v (.int (N : Int))), s4, s5, s6, s7, s8, s9, s10, some (.v (.int (o : Int))), s12, s13, s14, s15, s16, s17, s18, s19, s20, s21, s22, s23, s24, s25, s26, s27] := by
  have b1 := nxt_lo ds i N (by omega)
  have b2 := nxt_hi ds i N (by omega)
  obtain ⟨o, ho⟩ : ∃ m : Nat, nxt ds i N = (m : Int) := ⟨_, (Int.toNat_of_nonneg b1).symm⟩
  have h := e12 k ds i N (by omega) hi
  rw [ho] at h b2
  refine ⟨o, by omega, ?_⟩
  simp! [h]
theorem Reach_or {ps : List (Nat × Nat)} {p o x : Nat} : Reach ps [p, o] x ↔ Reach ps [p] x ∨ Reach ps [o] x := by
  constructor
  · intro h
    induction h with
    | base h =>
      rcases List.mem_cons.mp h with rfl | h
      · exact .inl (.refl _)
      · simp at h; subst h; exact .inr (.refl _)
    | step _ hb ih => exact ih.imp (fun r => .step r hb) fun r => .step r hb
  · intro h
    have aux : ∀ (A B : List Nat) (y : Nat), (∀ z ∈ A, z ∈ B) → Reach ps A y → Reach ps B y := fun A B y hAB r => by
      induction r with
      | base h => exact .base (hAB _ h)
      | step _ hb ih => exact .step ih hb
    rcases h with h | h
    · exact aux _ _ _ (by simp) h
    · exact aux _ _ _ (by simp) h
theorem q23 (k : Nat) {p o : Nat} (hs : sm.length ≤ 10) (hN2 : N ≤ 20) (hG : Good es N) (hp : p < N) (ho : o < N) : evS (Ko (k + 1)) S_law_23 [s0, s1, s2, s3, some (.v (.tup (es.map eD))), s5, some (.v (.tup (sm.map fI))), s7, s8, some (.m (bL es sm N)), some (.v (.int (p : Int))), some (.v (.int (o : Int))), s12, s13, s14, s15, s16, s17, s18, s19, s20, s21, s22, s23, s24, s25, s26, s27] = .next [s0, s1, s2, s3, some (.v (.tup (es.map eD))), s5, some (.v (.tup (sm.map fI))), s7, s8, some (.m (bL es sm N)), some (.v (.int (p : Int))), some (.v (.int (o : Int))), s12, s13, s14, s15, s16, s17, s18, s19, s20, s21, s22, s23, s24, s25, s26, s27] := by
  have h0 : cf (k + 1) 0 [.v (.tup (es.map eD)), .v (.tup (sm.map fI)), .v (.tup [.int (p : Int), .int (o : Int)])] = .ok (.v (.tup ((RL (prs es sm) [p, o] N).map nI))) [] := e0 k es sm (.tup (sm.map fI)) [p, o] N (it_sm sm) hN2 (by omega) (hG.prs sm) (by simp; exact ⟨hp, ho⟩) (by simp)
  have hb : mlook (bL es sm N) (.int (p : Int)) = some (.lst ((Bh es sm N p).map nI)) := bL_look hp
  have hb2 : mlook (bL es sm N) (.int (o : Int)) = some (.lst ((Bh es sm N o).map nI)) := bL_look ho
  have l0 := RL_len (prs es sm) [p, o] N
  have l1 := RL_len (prs es sm) [p] N
  have l2 := RL_len (prs es sm) [o] N
  change (Bh es sm N p).length ≤ N at l1
  change (Bh es sm N o).length ≤ N at l2
  have h3 := (sset_nI (xs := Bh es sm N p ++ Bh es sm N o) (m := RL (prs es sm) [p, o] N) (by simp; omega) (RL_sorted _ _ _) fun x => by
    rw [List.mem_append, Bh, Bh, RL_mem, RL_mem, RL_mem, Reach_or]
    constructor
    · rintro (⟨a, b⟩ | ⟨a, b⟩)
      · exact ⟨a, .inl b⟩
      · exact ⟨a, .inr b⟩
    · rintro ⟨a, b | b⟩
      · exact .inl ⟨a, b⟩
      · exact .inr ⟨a, b⟩).1
  rw [List.map_append] at h3
  have g1 := Gd_nI (RL (prs es sm) [p, o] N) (by omega)
  have m0 : (RL (prs es sm) [p, o] N).length ≤ 100000 := by omega
  have m1 : (Bh es sm N p).length + (Bh es sm N o).length ≤ 100000 := by omega
  generalize Bh es sm N p = B1 at hb h3 m1
  generalize Bh es sm N o = B2 at hb2 h3 m1
  generalize RL (prs es sm) [p, o] N = B3 at h0 h3 g1 m0
  generalize bL es sm N = BL at hb hb2 ⊢
  simp! [h0, hb, hb2, h3, g1, m0, m1]
end
end Tk06
end
section
/-! K06q: the law's turn: all places; what lies on a ring. -/
namespace Tk06
open Pv Pu
local macro_rules
  | `(tactic| simp! $[$l:location]?) => `(tactic| simp (maxDischargeDepth := 12) [-Option.bind_some, ob_some, Pv.get, Op.keeps, fetchs, fetch, opD, o_tup, o_lst, o_add, o_sub, o_mul, o_fdiv, o_mod, o_pow, o_neg, o_eq, o_ne, o_lt, o_gt, o_le, o_ge, o_in_, o_nin, o_isN, o_isnN, o_sl, o_len, o_abs, o_max, o_min, o_tupleOf, o_listOf, o_intOf, o_isi, o_get, o_get2, bounds, slD, dlook, flatD, keyOk, backs, ioFits, assigns, forget, T.slots, T.slotss, noOwn, frzSlot, sets, argsOf, iosOf, noDup, putBacks, setAt, putIx, subL, slotsG, isElt] $[$l]?)
  | `(tactic| simp! [$as,*] $[$l:location]?) => `(tactic| simp (maxDischargeDepth := 12) [-Option.bind_some, ob_some, Pv.get, Op.keeps, fetchs, fetch, opD, o_tup, o_lst, o_add, o_sub, o_mul, o_fdiv, o_mod, o_pow, o_neg, o_eq, o_ne, o_lt, o_gt, o_le, o_ge, o_in_, o_nin, o_isN, o_isnN, o_sl, o_len, o_abs, o_max, o_min, o_tupleOf, o_listOf, o_intOf, o_isi, o_get, o_get2, bounds, slD, dlook, flatD, keyOk, backs, ioFits, assigns, forget, T.slots, T.slotss, noOwn, frzSlot, sets, argsOf, iosOf, noDup, putBacks, setAt, putIx, subL, slotsG, isElt, $as,*] $[$l]?)

section
variable {ds : List Int} {s0 s1 s2 s3 s4 s5 s6 s7 s8 s9 s10 s11 s12 s13 s14 s15 s16 s17 s18 s19 s20 s21 s22 s23 s24 s25 s26 s27 : Option R} {es : List Ed} {sm : List (Fin es.length)} {N : Nat}
theorem places_round (k : Nat) {i : Int} {p : Nat} {q : Bool} (hi : 0 ≤ i) (hN : 2 ≤ N) (hs : sm.length ≤ 10) (hN2 : N ≤ 20) (hG : Good es N) (hp : p < N) :
    rnd (Ko (k + 1)) (.v 10) B_law_24 [10, 11] (.int (p : Int)) [s0, some (W ds i), s2, some (.v (.int (N : Int))), some (.v (.tup (es.map eD))), s5, some (.v (.tup (sm.map fI))), s7, some (tR es sm q), some (.m (bL es sm N)), none, none, s12, s13, s14, s15, s16, s17, s18, s19, s20, s21, s22, s23, s24, s25, s26, s27] = .next [s0, some (W ds (i + 1)), s2, some (.v (.int (N : Int))), some (.v (.tup (es.map eD))), s5, some (.v (.tup (sm.map fI))), s7, some (tR es sm true), some (.m (bL es sm N)), none, none, s12, s13, s14, s15, s16, s17, s18, s19, s20, s21, s22, s23, s24, s25, s26, s27] := by
  obtain ⟨o, ho, h1⟩ := q15 (ds := ds) (s0 := s0) (s2 := s2) (s4 := some (.v (.tup (es.map eD)))) (s5 := s5) (s6 := some (.v (.tup (sm.map fI)))) (s7 := s7) (s8 := some (tR es sm q)) (s9 := some (.m (bL es sm N))) (s10 := some (.v (.int (p : Int)))) (s11 := none) (s12 := s12) (s13 := s13) (s14 := s14) (s15 := s15) (s16 := s16) (s17 := s17) (s18 := s18) (s19 := s19) (s20 := s20) (s21 := s21) (s22 := s22) (s23 := s23) (s24 := s24) (s25 := s25) (s26 := s26) (s27 := s27) (N := N) k hi hN
  have hb := evSs_next h1 (evSs_next (q19 k hs hN2 hG hp) (evSs_next (q23 k hs hN2 hG hp ho) evSs_nil'))
  have hasg : assign (.v 10) (.v (.int (p : Int))) [s0, some (W ds i), s2, some (.v (.int (N : Int))), some (.v (.tup (es.map eD))), s5, some (.v (.tup (sm.map fI))), s7, some (tR es sm q), some (.m (bL es sm N)), none, none, s12, s13, s14, s15, s16, s17, s18, s19, s20, s21, s22, s23, s24, s25, s26, s27] = some [s0, some (W ds i), s2, some (.v (.int (N : Int))), some (.v (.tup (es.map eD))), s5, some (.v (.tup (sm.map fI))), s7, some (tR es sm q), some (.m (bL es sm N)), some (.v (.int (p : Int))), none, s12, s13, s14, s15, s16, s17, s18, s19, s20, s21, s22, s23, s24, s25, s26, s27] := by simp!
  have hB : B_law_24 = .cons S_law_15 (.cons S_law_19 (.cons S_law_23 .nil)) := rfl
  rw [rnd_eq, hasg, toFl_some, flb_next, kBody_eq, hB, hb, kilF_next]
  simp!
theorem places_loop (k : Nat) (hN : 2 ≤ N) (hs : sm.length ≤ 10) (hN2 : N ≤ 20) (hG : Good es N) : ∀ (l : List Nat) (i : Int) (q : Bool), 0 ≤ i → (∀ p ∈ l, p < N) → (q = true ∨ l ≠ []) →
    ∃ i' : Int, 0 ≤ i' ∧ forL (rnd (Ko (k + 1)) (.v 10) B_law_24 [10, 11]) (l.map fun (k : Nat) => D.int (k : Int)) [s0, some (W ds i), s2, some (.v (.int (N : Int))), some (.v (.tup (es.map eD))), s5, some (.v (.tup (sm.map fI))), s7, some (tR es sm q), some (.m (bL es sm N)), none, none, s12, s13, s14, s15, s16, s17, s18, s19, s20, s21, s22, s23, s24, s25, s26, s27] = .next [s0, some (W ds i'), s2, some (.v (.int (N : Int))), some (.v (.tup (es.map eD))), s5, some (.v (.tup (sm.map fI))), s7, some (tR es sm true), some (.m (bL es sm N)), none, none, s12, s13, s14, s15, s16, s17, s18, s19, s20, s21, s22, s23, s24, s25, s26, s27]
  | [], i, q, hi, _, hq => ⟨i, hi, by
    rcases hq with rfl | hq
    · rfl
    · exact absurd rfl hq⟩
  | p :: l, i, q, hi, hl, _ => by
    obtain ⟨i', g1, g2⟩ := places_loop k hN hs hN2 hG l (i + 1) true (by omega) (fun x hx => hl x (List.mem_cons_of_mem _ hx)) (.inl rfl)
    refine ⟨i', g1, ?_⟩
    rw [List.map_cons, forL_cons, places_round k hi hN hs hN2 hG (hl p List.mem_cons_self)]
    exact g2
theorem q25 (k : Nat) {i : Int} (hi : 0 ≤ i) (hN : 2 ≤ N) (hs : sm.length ≤ 10) (hN2 : N ≤ 20) (hG : Good es N) : ∃ i' : Int, 0 ≤ i' ∧ evS (Ko (k + 1)) S_law_25 [s0, some (W ds i), s2, some (.v (.int (N : Int))), some (.v (.tup (es.map eD))), s5, some (.v (.tup (sm.map fI))), s7, some (.l ((prt es sm).map pD)), some (.m (bL es sm N)), none, none, s12, s13, s14, s15, s16, s17, s18, s19, s20, s21, s22, s23, s24, s25, s26, s27] = .next [s0, some (W ds i'), s2, some (.v (.int (N : Int))), some (.v (.tup (es.map eD))), s5, some (.v (.tup (sm.map fI))), s7, some (.v (.lst ((prt es sm).map pD))), some (.m (bL es sm N)), none, none, s12, s13, s14, s15, s16, s17, s18, s19, s20, s21, s22, s23, s24, s25, s26, s27] := by
  obtain ⟨i', g1, g2⟩ := places_loop (ds := ds) (s0 := s0) (s2 := s2) (s5 := s5) (s7 := s7) (s12 := s12) (s13 := s13) (s14 := s14) (s15 := s15) (s16 := s16) (s17 := s17) (s18 := s18) (s19 := s19) (s20 := s20) (s21 := s21) (s22 := s22) (s23 := s23) (s24 := s24) (s25 := s25) (s26 := s26) (s27 := s27) k hN hs hN2 hG (List.range N) i false hi (fun p hp => List.mem_range.mp hp) (.inr (fun z => by have := congrArg List.length z; simp at this; omega))
  refine ⟨i', g1, ?_⟩
  have hw := walk_rn N (by omega)
  simp only [tR, Bool.false_eq_true, if_false, if_true] at g2
  simp! [evS_forK, -uB_law_24, hw, g2]
noncomputable def onF (es : List Ed) (sm : List (Fin es.length)) (N : Nat) : List (Fin es.length) := sm.filter fun k => decide ((ed es k).s ∈ Bh es sm N (ed es k).t)
theorem q27 (k : Nat) (hs : sm.length ≤ 10) (hG : Good es N) : evS (Ko k) S_law_27 [s0, s1, s2, s3, some (.v (.tup (es.map eD))), none, some (.v (.tup (sm.map fI))), s7, s8, some (.m (bL es sm N)), s10, s11, s12, s13, s14, s15, s16, s17, s18, s19, s20, s21, s22, s23, s24, s25, s26, s27] = .next [s0, s1, s2, s3, some (.v (.tup (es.map eD))), none, some (.v (.tup (sm.map fI))), s7, s8, some (.m (bL es sm N)), s10, s11, some (.l ((onF es sm N).map fI)), s13, s14, s15, s16, s17, s18, s19, s20, s21, s22, s23, s24, s25, s26, s27] := by
  have h : sm.length ≤ 100000 := by omega
  have c : pv (Ko k) C_law_26 [s0, s1, s2, s3, some (.v (.tup (es.map eD))), none, some (.v (.tup (sm.map fI))), s7, s8, some (.m (bL es sm N)), s10, s11, s12, s13, s14, s15, s16, s17, s18, s19, s20, s21, s22, s23, s24, s25, s26, s27] = some (.l ((onF es sm N).map fI)) := by
    refine pv_filc (qs := [.tup (sm.map fI)]) fI _ fI (by simp!) (by simp!) (by rw [walk_val, items_t]) h fun e _ => ?_
    have hed : es[(e : Nat)] = ed es e := rfl
    have hb : mlook (bL es sm N) (.int ((ed es e).t : Int)) = some (.lst ((Bh es sm N (ed es e).t).map nI)) := bL_look (hG.t e)
    generalize Bh es sm N (ed es e).t = B at hb ⊢
    generalize bL es sm N = BL at hb ⊢
    by_cases q1 : (ed es e).s ∈ B <;> simp! [fI, hed, hb, q1, -o_in_]
  simp! [-uC_law_26, c]
theorem q28 (k : Nat) : evS (Ko k) S_law_28 [s0, s1, s2, s3, s4, s5, s6, s7, s8, s9, s10, s11, s12, s13, s14, s15, s16, s17, s18, s19, s20, s21, s22, s23, s24, s25, s26, s27] = .next [s0, s1, s2, s3, s4, s5, s6, s7, s8, s9, s10, s11, s12, some (.l (([] : List (List (Fin es.length))).map fun l => .tup (l.map fI))), s14, s15, s16, s17, s18, s19, s20, s21, s22, s23, s24, s25, s26, s27] := by
  simp!
end
end Tk06
end
section
/-! K06r: the law's turn: rings. -/
namespace Tk06
open Pv Pu
local macro_rules
  | `(tactic| simp! $[$l:location]?) => `(tactic| simp (maxDischargeDepth := 12) [-Option.bind_some, ob_some, Pv.get, Op.keeps, fetchs, fetch, opD, o_tup, o_lst, o_add, o_sub, o_mul, o_fdiv, o_mod, o_pow, o_neg, o_eq, o_ne, o_lt, o_gt, o_le, o_ge, o_in_, o_nin, o_isN, o_isnN, o_sl, o_len, o_abs, o_max, o_min, o_tupleOf, o_listOf, o_intOf, o_isi, o_get, o_get2, bounds, slD, dlook, flatD, keyOk, backs, ioFits, assigns, forget, T.slots, T.slotss, noOwn, frzSlot, sets, argsOf, iosOf, noDup, putBacks, setAt, putIx, subL, slotsG, isElt] $[$l]?)
  | `(tactic| simp! [$as,*] $[$l:location]?) => `(tactic| simp (maxDischargeDepth := 12) [-Option.bind_some, ob_some, Pv.get, Op.keeps, fetchs, fetch, opD, o_tup, o_lst, o_add, o_sub, o_mul, o_fdiv, o_mod, o_pow, o_neg, o_eq, o_ne, o_lt, o_gt, o_le, o_ge, o_in_, o_nin, o_isN, o_isnN, o_sl, o_len, o_abs, o_max, o_min, o_tupleOf, o_listOf, o_intOf, o_isi, o_get, o_get2, bounds, slD, dlook, flatD, keyOk, backs, ioFits, assigns, forget, T.slots, T.slotss, noOwn, frzSlot, sets, argsOf, iosOf, noDup, putBacks, setAt, putIx, subL, slotsG, isElt, $as,*] $[$l]?)

theorem eqsL_nI : ∀ (a b : List Nat), eqsL (a.map nI) (b.map nI) = decide (a = b)
  | [], [] => rfl
  | [], _ :: _ => rfl
  | _ :: _, [] => rfl
  | x :: a, y :: b => by
    rw [List.map_cons, List.map_cons, eqsL, eqsL_nI a b]
    unfold nI
    rw [eqs_ii]
    by_cases h : x = y <;> by_cases h2 : a = b <;> simp [h, h2]
theorem eqs_rowN (a b : List Nat) : eqs (rowN a) (rowN b) = decide (a = b) := by
  unfold rowN
  rw [eqs, eqsL_nI]
theorem nin_rows (o : List Nat) (r : List (List Nat)) : o_nin [rowN o, .lst (r.map rowN)] = some (.v (.bl (!decide (o ∈ r)))) := by
  have h1 : noDic (rowN o) = true := noDics_map nI o fun _ => rfl
  have h2 : noDics (r.map rowN) = true := noDics_map rowN r fun x => noDics_map nI x fun _ => rfl
  have h3 : dep (rowN o) ≤ 60 := by
    have := deps_map nI 0 o fun f => Nat.le_refl _
    simp only [rowN, dep]
    omega
  have h4 : deps (r.map rowN) ≤ 60 := by
    have := deps_map rowN 2 r fun x => by
      have := deps_map nI 0 x fun f => Nat.le_refl _
      simp only [rowN, dep]
      omega
    omega
  have h5 : ((r.map rowN).any fun x => eqs x (rowN o)) = decide (o ∈ r) := by
    rw [any_map']
    induction r with
    | nil => rfl
    | cons a r ih =>
      rw [List.any_cons, eqs_rowN]
      have h4' : deps (r.map rowN) ≤ 60 := by
        have := deps_map rowN 2 r fun x => by
          have := deps_map nI 0 x fun f => Nat.le_refl _
          simp only [rowN, dep]
          omega
        omega
      rw [ih (noDics_map rowN r fun x => noDics_map nI x fun _ => rfl) h4']
      by_cases h : a = o
      · simp [h]
      · by_cases h' : o ∈ r
        · simp [h']
        · have : ¬ o = a := fun z => h z.symm
          simp [h, h', this]
  simp only [rowN] at h1 h3 h5 ⊢
  simp only [o_nin, h1, h2, h3, h4, h5, decide_true, Bool.and_true, if_true]
noncomputable def stL (es : List Ed) (sm : List (Fin es.length)) (N : Nat) (r : List (List Nat)) (k : Fin es.length) : List (List Nat) := if (owF es sm N k).map Fin.val ∈ r then r else r ++ [(owF es sm N k).map Fin.val]
theorem own_on {es : List Ed} {sm : List (Fin es.length)} {N : Nat} (hG : Good es N) (e : Fin es.length) : ((onF es sm N).filter fun n => decide ((ed es n).s ∈ Bh es sm N (ed es e).s) && decide ((ed es e).s ∈ Bh es sm N (ed es n).s)) = owF es sm N e := by
  unfold onF owF
  rw [List.filter_filter]
  refine List.filter_congr fun n hn => ?_
  have e1 : Reach (prs es sm) [(ed es n).s] (ed es n).t := .step (.refl _) (List.mem_map.mpr ⟨n, hn, rfl⟩)
  rw [Bool.eq_iff_iff]
  simp only [Bool.and_eq_true, decide_eq_true_eq, Bh_iff hG (hG.s _), Bh_iff hG (hG.t _)]
  constructor
  · rintro ⟨⟨a, b⟩, c⟩
    exact ⟨a, c.trans b⟩
  · rintro ⟨a, b⟩
    exact ⟨⟨a, e1.trans b⟩, b.trans a⟩
section
variable {ds : List Int} {s0 s1 s2 s3 s4 s5 s6 s7 s8 s9 s10 s11 s12 s13 s14 s15 s16 s17 s18 s19 s20 s21 s22 s23 s24 s25 s26 s27 : Option R} {es : List Ed} {sm : List (Fin es.length)} {N : Nat}
theorem ring_round (k : Nat) {e : Fin es.length} {r : List (List Nat)} (hs : sm.length ≤ 10) (hG : Good es N) (hr : r.length ≤ 1000) :
    rnd (Ko k) (.v 5) B_law_32 [5, 14] (fI e) [s0, s1, s2, s3, some (.v (.tup (es.map eD))), none, s6, s7, s8, some (.m (bL es sm N)), s10, s11, some (.v (.lst ((onF es sm N).map fI))), some (.l (r.map rowN)), none, s15, s16, s17, s18, s19, s20, s21, s22, s23, s24, s25, none, s27] = .next [s0, s1, s2, s3, some (.v (.tup (es.map eD))), none, s6, s7, s8, some (.m (bL es sm N)), s10, s11, some (.v (.lst ((onF es sm N).map fI))), some (.l ((stL es sm N r e).map rowN)), none, s15, s16, s17, s18, s19, s20, s21, s22, s23, s24, s25, none, s27] := by
  have hed : es[(e : Nat)] = ed es e := rfl
  have h : (onF es sm N).length ≤ 100000 := Nat.le_trans (List.length_filter_le _ _) (by omega)
  have ho : (owF es sm N e).length ≤ 100000 := Nat.le_trans (List.length_filter_le _ _) (by omega)
  have c : pv (Ko k) C_law_29 [s0, s1, s2, s3, some (.v (.tup (es.map eD))), some (.v (fI e)), s6, s7, s8, some (.m (bL es sm N)), s10, s11, some (.v (.lst ((onF es sm N).map fI))), some (.l (r.map rowN)), none, s15, s16, s17, s18, s19, s20, s21, s22, s23, s24, s25, none, s27] = some (.l (((owF es sm N e).map Fin.val).map nI)) := by
    rw [← own_on hG e, ← fI_nI]
    refine pv_filc (qs := [.lst ((onF es sm N).map fI)]) fI _ fI (by simp!) (by simp!) (by rw [walk_val]; rfl) h fun n _ => ?_
    have hen : es[(n : Nat)] = ed es n := rfl
    have hb : mlook (bL es sm N) (.int ((ed es e).s : Int)) = some (.lst ((Bh es sm N (ed es e).s).map nI)) := bL_look (hG.s e)
    have hb2 : mlook (bL es sm N) (.int ((ed es n).s : Int)) = some (.lst ((Bh es sm N (ed es n).s).map nI)) := bL_look (hG.s n)
    generalize Bh es sm N (ed es e).s = B at hb ⊢
    generalize Bh es sm N (ed es n).s = B2 at hb2 ⊢
    generalize bL es sm N = BL at hb hb2 ⊢
    by_cases q1 : (ed es n).s ∈ B <;> by_cases q2 : (ed es e).s ∈ B2 <;> simp! [fI, hed, hen, hb, hb2, q1, q2, -o_in_]
  have a1 : evS (Ko k) S_law_30 [s0, s1, s2, s3, some (.v (.tup (es.map eD))), some (.v (fI e)), s6, s7, s8, some (.m (bL es sm N)), s10, s11, some (.v (.lst ((onF es sm N).map fI))), some (.l (r.map rowN)), none, s15, s16, s17, s18, s19, s20, s21, s22, s23, s24, s25, none, s27] = .next [s0, s1, s2, s3, some (.v (.tup (es.map eD))), some (.v (fI e)), s6, s7, s8, some (.m (bL es sm N)), s10, s11, some (.v (.lst ((onF es sm N).map fI))), some (.l (r.map rowN)), some (.v (rowN ((owF es sm N e).map Fin.val))), s15, s16, s17, s18, s19, s20, s21, s22, s23, s24, s25, none, s27] := by
    have ho' : ((owF es sm N e).map Fin.val).length ≤ 100000 := by simpa using ho
    generalize (owF es sm N e).map Fin.val = O at c ho'
    simp! [-uC_law_29, c, ho', rowN]
  have a2 : evS (Ko k) S_law_31 [s0, s1, s2, s3, some (.v (.tup (es.map eD))), some (.v (fI e)), s6, s7, s8, some (.m (bL es sm N)), s10, s11, some (.v (.lst ((onF es sm N).map fI))), some (.l (r.map rowN)), some (.v (rowN ((owF es sm N e).map Fin.val))), s15, s16, s17, s18, s19, s20, s21, s22, s23, s24, s25, none, s27] = .next [s0, s1, s2, s3, some (.v (.tup (es.map eD))), some (.v (fI e)), s6, s7, s8, some (.m (bL es sm N)), s10, s11, some (.v (.lst ((onF es sm N).map fI))), some (.l ((stL es sm N r e).map rowN)), some (.v (rowN ((owF es sm N e).map Fin.val))), s15, s16, s17, s18, s19, s20, s21, s22, s23, s24, s25, none, s27] := by
    unfold stL
    generalize (owF es sm N e).map Fin.val = O
    have hn := nin_rows O r
    have hm0 : o_mulL [.lst [rowN O], .int 0] = some (.l []) := by have z : small 1 = true := small_of (by omega); simp [o_mulL, z]
    have hm1 : o_mulL [.lst [rowN O], .int 1] = some (.l [rowN O]) := by have z : small 1 = true := small_of (by omega); simp [o_mulL, z]
    have hr' : r.length + 1 ≤ 100000 := by omega
    have hr2 : r.length ≤ 100000 := by omega
    by_cases q : O ∈ r
    · rw [if_pos q]
      rw [decide_eq_true q] at hn
      simp! [hn, hm0, hm1, hr', hr2, -o_nin]
    · rw [if_neg q]
      rw [decide_eq_false q] at hn
      simp! [hn, hm0, hm1, hr', hr2, -o_nin]
  have hasg : assign (.v 5) (.v (fI e)) [s0, s1, s2, s3, some (.v (.tup (es.map eD))), none, s6, s7, s8, some (.m (bL es sm N)), s10, s11, some (.v (.lst ((onF es sm N).map fI))), some (.l (r.map rowN)), none, s15, s16, s17, s18, s19, s20, s21, s22, s23, s24, s25, none, s27] = some [s0, s1, s2, s3, some (.v (.tup (es.map eD))), some (.v (fI e)), s6, s7, s8, some (.m (bL es sm N)), s10, s11, some (.v (.lst ((onF es sm N).map fI))), some (.l (r.map rowN)), none, s15, s16, s17, s18, s19, s20, s21, s22, s23, s24, s25, none, s27] := by simp!
  have hB : B_law_32 = .cons S_law_30 (.cons S_law_31 .nil) := rfl
  rw [rnd_eq, hasg, toFl_some, flb_next, kBody_eq, hB, evSs_next a1 (evSs_next a2 evSs_nil'), kilF_next]
  simp!
end
end Tk06
end
section
/-! K06s: the law's turn: the law's rings are the program's. -/
namespace Tk06
open Pv Pu
local macro_rules
  | `(tactic| simp! $[$l:location]?) => `(tactic| simp (maxDischargeDepth := 12) [-Option.bind_some, ob_some, Pv.get, Op.keeps, fetchs, fetch, opD, o_tup, o_lst, o_add, o_sub, o_mul, o_fdiv, o_mod, o_pow, o_neg, o_eq, o_ne, o_lt, o_gt, o_le, o_ge, o_in_, o_nin, o_isN, o_isnN, o_sl, o_len, o_abs, o_max, o_min, o_tupleOf, o_listOf, o_intOf, o_isi, o_get, o_get2, bounds, slD, dlook, flatD, keyOk, backs, ioFits, assigns, forget, T.slots, T.slotss, noOwn, frzSlot, sets, argsOf, iosOf, noDup, putBacks, setAt, putIx, subL, slotsG, isElt] $[$l]?)
  | `(tactic| simp! [$as,*] $[$l:location]?) => `(tactic| simp (maxDischargeDepth := 12) [-Option.bind_some, ob_some, Pv.get, Op.keeps, fetchs, fetch, opD, o_tup, o_lst, o_add, o_sub, o_mul, o_fdiv, o_mod, o_pow, o_neg, o_eq, o_ne, o_lt, o_gt, o_le, o_ge, o_in_, o_nin, o_isN, o_isnN, o_sl, o_len, o_abs, o_max, o_min, o_tupleOf, o_listOf, o_intOf, o_isi, o_get, o_get2, bounds, slD, dlook, flatD, keyOk, backs, ioFits, assigns, forget, T.slots, T.slotss, noOwn, frzSlot, sets, argsOf, iosOf, noDup, putBacks, setAt, putIx, subL, slotsG, isElt, $as,*] $[$l]?)

theorem insN_mem (l m : List Nat) (x : Nat) : x ∈ l.foldl insN m ↔ x ∈ m ∨ x ∈ l := by
  induction l generalizing m with
  | nil => simp
  | cons a l ih =>
    rw [List.foldl_cons, ih]
    have h : x ∈ insN m a ↔ x ∈ m ∨ x = a := by
      unfold insN
      split
      · constructor
        · exact .inl
        · rintro (h | rfl)
          · exact h
          · assumption
      · simp
    rw [h, List.mem_cons, or_assoc]
section
variable {es : List Ed} {sm : List (Fin es.length)} {N : Nat}
theorem ow_eq (hG : Good es N) {e e' : Fin es.length} (he : e ∈ owF es sm N e') : owF es sm N e = owF es sm N e' := by
  obtain ⟨h1, h2⟩ := List.mem_filter.mp he
  simp only [Bool.and_eq_true, decide_eq_true_eq, Bh_iff hG (hG.s _), Bh_iff hG (hG.t _)] at h2
  obtain ⟨a, b⟩ := h2
  have c : Reach (prs es sm) [(ed es e).s] (ed es e').s := Reach.trans (.step (.refl _) (List.mem_map.mpr ⟨e, h1, rfl⟩)) b
  unfold owF
  refine List.filter_congr fun n hn => ?_
  rw [Bool.eq_iff_iff]
  simp only [Bool.and_eq_true, decide_eq_true_eq, Bh_iff hG (hG.s _), Bh_iff hG (hG.t _)]
  constructor
  · rintro ⟨x, y⟩
    exact ⟨a.trans x, y.trans c⟩
  · rintro ⟨x, y⟩
    exact ⟨c.trans x, y.trans a⟩
theorem rgs_go (hG : Good es N) : ∀ (l : List (Fin es.length)) (f : List (List Nat)) (m : List Nat), (∀ e ∈ l, e ∈ sm) → (∀ x, x ∈ m ↔ ∃ O ∈ f, x ∈ O) → (∀ O ∈ f, ∃ e, O = (owF es sm N e).map Fin.val) →
    (l.filter fun k => decide ((ed es k).s ∈ Bh es sm N (ed es k).t)).foldl (stL es sm N) f = (l.foldl (stP es sm N) (f, m)).1
  | [], f, m, _, _, _ => rfl
  | e :: l, f, m, hl, h1, h2 => by
    have hl' : ∀ e ∈ l, e ∈ sm := fun x hx => hl x (List.mem_cons_of_mem _ hx)
    rw [List.foldl_cons, List.filter_cons]
    by_cases hc : (ed es e).s ∈ Bh es sm N (ed es e).t
    · rw [if_pos (by simpa using hc), List.foldl_cons]
      have key : (owF es sm N e).map Fin.val ∈ f ↔ e.1 ∈ m := by
        rw [h1]
        constructor
        · intro h
          exact ⟨_, h, List.mem_map.mpr ⟨e, ow_self hG (hl e List.mem_cons_self) hc, rfl⟩⟩
        · rintro ⟨O, hO, hx⟩
          obtain ⟨e', rfl⟩ := h2 O hO
          obtain ⟨y, hy, hy2⟩ := List.mem_map.mp hx
          have : y = e := Fin.ext hy2
          subst this
          rw [ow_eq hG hy]
          exact hO
      by_cases hm : e.1 ∈ m
      · have e1 : stL es sm N f e = f := by unfold stL; rw [if_pos (key.mpr hm)]
        have e2 : stP es sm N (f, m) e = (f, m) := by unfold stP; rw [if_neg fun z => z.1 hm]
        rw [e1, e2]
        exact rgs_go hG l f m hl' h1 h2
      · have e1 : stL es sm N f e = f ++ [(owF es sm N e).map Fin.val] := by unfold stL; rw [if_neg fun z => hm (key.mp z)]
        have e2 : stP es sm N (f, m) e = (f ++ [(owF es sm N e).map Fin.val], ((owF es sm N e).map Fin.val).foldl insN m) := by unfold stP; rw [if_pos ⟨hm, hc⟩]
        rw [e1, e2]
        refine rgs_go hG l _ _ hl' (fun x => ?_) fun O hO => ?_
        · rw [insN_mem, h1]
          constructor
          · rintro (⟨O, a, b⟩ | h)
            · exact ⟨O, List.mem_append_left _ a, b⟩
            · exact ⟨_, List.mem_append_right _ (List.mem_singleton.mpr rfl), h⟩
          · rintro ⟨O, a, b⟩
            rcases List.mem_append.mp a with a | a
            · exact .inl ⟨O, a, b⟩
            · rw [List.mem_singleton.mp a] at b
              exact .inr b
        · rcases List.mem_append.mp hO with a | a
          · exact h2 O a
          · exact ⟨e, List.mem_singleton.mp a⟩
    · rw [if_neg (by simpa using hc)]
      have e2 : stP es sm N (f, m) e = (f, m) := by unfold stP; rw [if_neg fun z => hc z.2]
      rw [e2]
      exact rgs_go hG l f m hl' h1 h2
theorem rgs_eq (hG : Good es N) : (onF es sm N).foldl (stL es sm N) [] = fnd es sm N := rgs_go hG sm [] [] (fun _ h => h) (fun x => by simp) nofun
end
section
variable {ds : List Int} {s0 s1 s2 s3 s4 s5 s6 s7 s8 s9 s10 s11 s12 s13 s14 s15 s16 s17 s18 s19 s20 s21 s22 s23 s24 s25 s26 s27 : Option R} {es : List Ed} {sm : List (Fin es.length)} {N : Nat}
theorem q33 (k : Nat) (hs : sm.length ≤ 10) (hG : Good es N) : evS (Ko k) S_law_33 [s0, s1, s2, s3, some (.v (.tup (es.map eD))), none, s6, s7, s8, some (.m (bL es sm N)), s10, s11, some (.l ((onF es sm N).map fI)), some (.l []), none, s15, s16, s17, s18, s19, s20, s21, s22, s23, s24, s25, none, s27] = .next [s0, s1, s2, s3, some (.v (.tup (es.map eD))), none, s6, s7, s8, some (.m (bL es sm N)), s10, s11, some (.v (.lst ((onF es sm N).map fI))), some (.l ((fnd es sm N).map rowN)), none, s15, s16, s17, s18, s19, s20, s21, s22, s23, s24, s25, none, s27] := by
  have ho : (onF es sm N).length ≤ 10 := Nat.le_trans (List.length_filter_le _ _) hs
  have hL := (forL_foldN (body := rnd (Ko k) (.v 5) B_law_32 [5, 14]) (fun r : List (List Nat) => [s0, s1, s2, s3, some (.v (.tup (es.map eD))), none, s6, s7, s8, some (.m (bL es sm N)), s10, s11, some (.v (.lst ((onF es sm N).map fI))), some (.l (r.map rowN)), none, s15, s16, s17, s18, s19, s20, s21, s22, s23, s24, s25, none, s27]) (stL es sm N) (fun n b => b.length ≤ n) fI (l := onF es sm N) (b := []) (n := 0) (by simp) fun i a ha b hb => by
    have hi : i < (onF es sm N).length := (List.getElem?_eq_some_iff.mp ha).1
    refine ⟨.inl (ring_round k hs hG (by omega)), ?_⟩
    unfold stL
    split
    · omega
    · simp; omega).1
  rw [rgs_eq hG] at hL
  generalize (onF es sm N).map fI = L at hL ⊢
  rw [List.map_nil] at hL
  simp! [evS_forK, -uB_law_32, hL]
end
end Tk06
end
section
/-! K06t: the law's turn: rings, and what lies on none, are the same. -/
namespace Tk06
open Pv Pu
local macro_rules
  | `(tactic| simp! $[$l:location]?) => `(tactic| simp (maxDischargeDepth := 12) [-Option.bind_some, ob_some, Pv.get, Op.keeps, fetchs, fetch, opD, o_tup, o_lst, o_add, o_sub, o_mul, o_fdiv, o_mod, o_pow, o_neg, o_eq, o_ne, o_lt, o_gt, o_le, o_ge, o_in_, o_nin, o_isN, o_isnN, o_sl, o_len, o_abs, o_max, o_min, o_tupleOf, o_listOf, o_intOf, o_isi, o_get, o_get2, bounds, slD, dlook, flatD, keyOk, backs, ioFits, assigns, forget, T.slots, T.slotss, noOwn, frzSlot, sets, argsOf, iosOf, noDup, putBacks, setAt, putIx, subL, slotsG, isElt] $[$l]?)
  | `(tactic| simp! [$as,*] $[$l:location]?) => `(tactic| simp (maxDischargeDepth := 12) [-Option.bind_some, ob_some, Pv.get, Op.keeps, fetchs, fetch, opD, o_tup, o_lst, o_add, o_sub, o_mul, o_fdiv, o_mod, o_pow, o_neg, o_eq, o_ne, o_lt, o_gt, o_le, o_ge, o_in_, o_nin, o_isN, o_isnN, o_sl, o_len, o_abs, o_max, o_min, o_tupleOf, o_listOf, o_intOf, o_isi, o_get, o_get2, bounds, slD, dlook, flatD, keyOk, backs, ioFits, assigns, forget, T.slots, T.slotss, noOwn, frzSlot, sets, argsOf, iosOf, noDup, putBacks, setAt, putIx, subL, slotsG, isElt, $as,*] $[$l]?)

@[simp] theorem nin_lN (i : Nat) (v : List Nat) : o_nin [.int (i : Int), .lst (v.map nI)] = some (.v (.bl (!decide (i ∈ v)))) := by
  simp [o_nin]
theorem szs_mem (n : Nat) : ∀ (l : List D), (∀ d ∈ l, sz d ≤ n) → szs l ≤ n * l.length
  | [], _ => by simp [szs]
  | d :: l, h => by
    have h1 := szs_mem n l fun d hd => h d (List.mem_cons_of_mem _ hd)
    have h2 := h d List.mem_cons_self
    rw [szs, List.length_cons, Nat.mul_succ]
    omega
section
variable {es : List Ed} {sm : List (Fin es.length)} {N : Nat}
theorem stL_mem (O : List Nat) : ∀ (l : List (Fin es.length)) (f : List (List Nat)), O ∈ l.foldl (stL es sm N) f ↔ O ∈ f ∨ ∃ e ∈ l, O = (owF es sm N e).map Fin.val
  | [], f => by simp
  | e :: l, f => by
    rw [List.foldl_cons, stL_mem O l]
    have h : O ∈ stL es sm N f e ↔ O ∈ f ∨ O = (owF es sm N e).map Fin.val := by
      unfold stL
      split
      · rename_i h
        constructor
        · exact .inl
        · rintro (a | rfl)
          · exact a
          · exact h
      · simp
    rw [h]
    simp only [List.mem_cons, exists_eq_or_imp, or_assoc]
theorem fnd_mem (hG : Good es N) (O : List Nat) : O ∈ fnd es sm N ↔ ∃ e ∈ onF es sm N, O = (owF es sm N e).map Fin.val := by
  rw [← rgs_eq hG, stL_mem]
  simp
theorem fnd_row (hG : Good es N) {O : List Nat} (h : O ∈ fnd es sm N) : O.length ≤ sm.length := by
  obtain ⟨e, _, rfl⟩ := (fnd_mem hG O).mp h
  rw [List.length_map]
  exact List.length_filter_le _ _
theorem off_on (hG : Good es N) : offF es sm N = sm.filter fun k => !decide (k.1 ∈ (onF es sm N).map Fin.val) := by
  unfold offF
  refine List.filter_congr fun e he => ?_
  congr 1
  rw [Bool.eq_iff_iff, List.any_eq_true]
  simp only [decide_eq_true_eq]
  have e1 : e.1 ∈ (onF es sm N).map Fin.val ↔ e ∈ onF es sm N := by
    constructor
    · intro h
      obtain ⟨y, h1, h2⟩ := List.mem_map.mp h
      rw [← Fin.ext h2]
      exact h1
    · exact fun h => List.mem_map.mpr ⟨e, h, rfl⟩
  rw [e1]
  constructor
  · rintro ⟨O, hO, hx⟩
    obtain ⟨e', h1, rfl⟩ := (fnd_mem hG O).mp hO
    obtain ⟨y, h3, h4⟩ := List.mem_map.mp hx
    have : y = e := Fin.ext h4
    subst this
    have h5 := (List.mem_filter.mp h3).2
    simp only [Bool.and_eq_true, decide_eq_true_eq, Bh_iff hG (hG.s _), Bh_iff hG (hG.t _)] at h5
    refine List.mem_filter.mpr ⟨he, ?_⟩
    simp only [decide_eq_true_eq, Bh_iff hG (hG.t _)]
    exact h5.2.trans h5.1
  · intro h
    have h1 := (List.mem_filter.mp h).2
    exact ⟨_, (fnd_mem hG _).mpr ⟨e, h, rfl⟩, List.mem_map.mpr ⟨e, ow_self hG he (by simpa using h1), rfl⟩⟩
theorem fnd_ne (hG : Good es N) : ∀ r ∈ fnd es sm N, r ≠ [] := fun r hr => by
  obtain ⟨e, h1, rfl⟩ := (fnd_mem hG r).mp hr
  obtain ⟨h2, h3⟩ := List.mem_filter.mp h1
  have := ow_self hG h2 (by simpa using h3)
  intro z
  rw [List.map_eq_nil_iff] at z
  rw [z] at this
  cases this
theorem srt_len2 (f : List (List Nat)) : (srt f).length = f.length := by
  unfold srt
  rw [List.length_map, (sortR_perm _).length_eq, List.length_map]
theorem Gd_srt (hG : Good es N) (hs : sm.length ≤ 10) : Gd (.tup (srt (fnd es sm N))) := by
  have hm : ∀ d ∈ srt (fnd es sm N), ∃ r : List Int, r.length ≤ 10 ∧ d = rowD r := fun d hd => by
    obtain ⟨r, h1, rfl⟩ := List.mem_map.mp hd
    obtain ⟨O, h2, rfl⟩ := List.mem_map.mp ((sortR_perm _).mem_iff.mp h1)
    have := fnd_row hG h2
    exact ⟨_, by simp only [intsL, List.length_map]; omega, rfl⟩
  have hl := fnd_len es sm N
  have hsz := szs_mem 20 (srt (fnd es sm N)) fun d hd => by
    obtain ⟨r, h1, rfl⟩ := hm d hd
    have := szs_map D.int 1 r fun x => by simp [sz]
    simp only [rowD, sz]
    omega
  rw [srt_len2] at hsz
  have hdp : deps (srt (fnd es sm N)) ≤ 5 := deps_map rowD 5 _ fun r => by
    have := deps_map D.int 0 r fun x => Nat.le_refl _
    simp only [rowD, dep]
    omega
  exact ⟨noDics_map rowD _ fun r => noDics_map D.int r fun _ => rfl, by simp only [dep]; omega, by simp only [sz]; omega⟩
end
section
variable {ds : List Int} {s0 s1 s2 s3 s4 s5 s6 s7 s8 s9 s10 s11 s12 s13 s14 s15 s16 s17 s18 s19 s20 s21 s22 s23 s24 s25 s26 s27 : Option R} {es : List Ed} {sm : List (Fin es.length)} {N : Nat}
theorem q38 (k : Nat) (hs : sm.length ≤ 10) (hN2 : N ≤ 20) (hG : Good es N) : evS (Ko (k + 3)) S_law_38 [s0, s1, s2, s3, some (.v (.tup (es.map eD))), none, some (.v (.tup (sm.map fI))), s7, s8, s9, s10, s11, some (.v (.lst ((onF es sm N).map fI))), some (.l ((fnd es sm N).map rowN)), s14, s15, s16, s17, s18, s19, s20, s21, s22, s23, s24, s25, s26, s27] = .next [s0, s1, s2, s3, some (.v (.tup (es.map eD))), none, some (.v (.tup (sm.map fI))), s7, s8, s9, s10, s11, some (.v (.lst ((onF es sm N).map fI))), some (.l ((fnd es sm N).map rowN)), s14, s15, s16, s17, s18, s19, s20, s21, s22, s23, s24, s25, s26, s27] := by
  have h : sm.length ≤ 100000 := by omega
  have h3 : cf (k + 3) 3 [.v (.tup (es.map eD)), .v (.tup (sm.map fI))] = .ok (.v (.tup (srt (fnd es sm N)))) [] := e3 (k + 1) es sm (.tup (sm.map fI)) N (it_sm sm) hN2 (by omega) hG
  have h5 := e5 k es sm (.tup (sm.map fI)) N (it_sm sm) hN2 (by omega) hG
  have hl := fnd_len es sm N
  have hr := sorted_rows (f := fnd es sm N) (fnd_ne hG) (by omega)
  have hsl : (srt (fnd es sm N)).length ≤ 100000 := by rw [srt_len2]; omega
  have g1 := Gd_srt hG hs
  have hol : (offF es sm N).length ≤ sm.length := List.length_filter_le _ _
  have g2 := Gd_fI (offF es sm N) (by omega)
  have hol' : (offF es sm N).length ≤ 100000 := by omega
  have c : pv (Ko (k + 3)) C_law_34 [s0, s1, s2, s3, some (.v (.tup (es.map eD))), none, some (.v (.tup (sm.map fI))), s7, s8, s9, s10, s11, some (.v (.lst ((onF es sm N).map fI))), some (.l ((fnd es sm N).map rowN)), s14, s15, s16, s17, s18, s19, s20, s21, s22, s23, s24, s25, s26, s27] = some (.l ((offF es sm N).map fI)) := by
    rw [off_on hG, fI_nI (onF es sm N)]
    refine pv_filc (qs := [.tup (sm.map fI)]) fI _ fI (by simp!) (by simp!) (by rw [walk_val, items_t]) h fun e _ => ?_
    generalize (onF es sm N).map Fin.val = O
    by_cases q1 : e.1 ∈ O <;> simp! [fI, q1, -o_nin]
  generalize offF es sm N = F at h5 g2 c hol'
  generalize (fnd es sm N).map rowN = L at hr c ⊢
  generalize srt (fnd es sm N) = T at h3 hr hsl g1
  generalize (onF es sm N).map fI = O at c ⊢
  simp! [-uC_law_34, c, h3, h5, hr, hsl, g1, g2, hol']
end
end Tk06
end
section
/-! K06u: the law's turn: on a ring or not; entries; order. -/
namespace Tk06
open Pv Pu
local macro_rules
  | `(tactic| simp! $[$l:location]?) => `(tactic| simp (maxDischargeDepth := 12) [-Option.bind_some, ob_some, Pv.get, Op.keeps, fetchs, fetch, opD, o_tup, o_lst, o_add, o_sub, o_mul, o_fdiv, o_mod, o_pow, o_neg, o_eq, o_ne, o_lt, o_gt, o_le, o_ge, o_in_, o_nin, o_isN, o_isnN, o_sl, o_len, o_abs, o_max, o_min, o_tupleOf, o_listOf, o_intOf, o_isi, o_get, o_get2, bounds, slD, dlook, flatD, keyOk, backs, ioFits, assigns, forget, T.slots, T.slotss, noOwn, frzSlot, sets, argsOf, iosOf, noDup, putBacks, setAt, putIx, subL, slotsG, isElt] $[$l]?)
  | `(tactic| simp! [$as,*] $[$l:location]?) => `(tactic| simp (maxDischargeDepth := 12) [-Option.bind_some, ob_some, Pv.get, Op.keeps, fetchs, fetch, opD, o_tup, o_lst, o_add, o_sub, o_mul, o_fdiv, o_mod, o_pow, o_neg, o_eq, o_ne, o_lt, o_gt, o_le, o_ge, o_in_, o_nin, o_isN, o_isnN, o_sl, o_len, o_abs, o_max, o_min, o_tupleOf, o_listOf, o_intOf, o_isi, o_get, o_get2, bounds, slD, dlook, flatD, keyOk, backs, ioFits, assigns, forget, T.slots, T.slotss, noOwn, frzSlot, sets, argsOf, iosOf, noDup, putBacks, setAt, putIx, subL, slotsG, isElt, $as,*] $[$l]?)

section
variable {ds : List Int} {s0 s1 s2 s3 s4 s5 s6 s7 s8 s9 s10 s11 s12 s13 s14 s15 s16 s17 s18 s19 s20 s21 s22 s23 s24 s25 s26 s27 : Option R} {es : List Ed} {sm : List (Fin es.length)} {N : Nat}
theorem q43 (k : Nat) (hs : sm.length ≤ 10) (hN2 : N ≤ 20) (hG : Good es N) : evS (Ko (k + 2)) S_law_43 [s0, s1, s2, s3, some (.v (.tup (es.map eD))), none, some (.v (.tup (sm.map fI))), s7, s8, s9, s10, s11, some (.v (.lst ((onF es sm N).map fI))), s13, s14, s15, s16, s17, s18, s19, s20, s21, s22, s23, s24, s25, s26, s27] = .next [s0, s1, s2, s3, some (.v (.tup (es.map eD))), none, some (.v (.tup (sm.map fI))), s7, s8, s9, s10, s11, some (.v (.lst ((onF es sm N).map fI))), s13, s14, s15, s16, s17, s18, s19, s20, s21, s22, s23, s24, s25, s26, s27] := by
  have h : sm.length ≤ 100000 := by omega
  have c : pv (Ko (k + 2)) C_law_39 [s0, s1, s2, s3, some (.v (.tup (es.map eD))), none, some (.v (.tup (sm.map fI))), s7, s8, s9, s10, s11, some (.v (.lst ((onF es sm N).map fI))), s13, s14, s15, s16, s17, s18, s19, s20, s21, s22, s23, s24, s25, s26, s27] = some (.l ((sm.filter fun _ => false).map fI)) := by
    rw [fI_nI (onF es sm N)]
    refine pv_filc (qs := [.tup (sm.map fI)]) fI (fun _ => false) fI (by simp!) (by simp!) (by rw [walk_val, items_t]) h fun e he => ?_
    have h9 : cf (k + 2) 9 [.v (.tup (es.map eD)), .v (.tup (sm.map fI)), .v (.int ((e.1 : Nat) : Int))] = .ok (.v (.bl (decide ((ed es e).s ∈ Bh es sm N (ed es e).t)))) [] := e9 k es sm (.tup (sm.map fI)) N (it_sm sm) hN2 (by omega) hG e
    have hx : decide (e.1 ∈ (onF es sm N).map Fin.val) = decide ((ed es e).s ∈ Bh es sm N (ed es e).t) := by
      rw [Bool.eq_iff_iff]
      simp only [decide_eq_true_eq]
      constructor
      · intro z
        obtain ⟨y, h1, h2⟩ := List.mem_map.mp z
        rw [← Fin.ext h2]
        simpa using (List.mem_filter.mp h1).2
      · exact fun z => List.mem_map.mpr ⟨e, List.mem_filter.mpr ⟨he, by simpa using z⟩, rfl⟩
    have hi := in_lN e.1 ((onF es sm N).map Fin.val)
    rw [hx] at hi
    generalize decide ((ed es e).s ∈ Bh es sm N (ed es e).t) = b at h9 hi
    generalize (onF es sm N).map Fin.val = O at hi ⊢
    simp! [fI, h9, hi, -o_in_, -in_lN]
  rw [show (sm.filter fun _ => false) = [] by simp] at c
  simp! [-uC_law_39, c]
theorem q44 (k : Nat) (hl : es.length ≤ 10) : evS (Ko k) S_law_44 [s0, s1, s2, s3, some (.v (.tup (es.map eD))), s5, s6, s7, s8, s9, s10, s11, s12, s13, s14, s15, s16, s17, s18, s19, s20, s21, s22, s23, s24, s25, s26, s27] = .next [s0, s1, s2, s3, some (.v (.tup (es.map eD))), s5, s6, s7, s8, s9, s10, s11, s12, s13, s14, some (.v (.tup ((fins es.length).map fI))), s16, s17, s18, s19, s20, s21, s22, s23, s24, s25, s26, s27] := by
  have h1 : es.length ≤ 100000 := by omega
  have ht : o_tupRange [.int (es.length : Int)] = some (.v (.tup ((fins es.length).map fI))) := by
    rw [← fins_D]
    simp [o_tupRange, rangeD]
    omega
  simp! [h1, ht]
theorem q54 (k : Nat) {i : Int} (hi : 0 ≤ i) (hN : 2 ≤ N) : ∃ o : Nat, o < N ∧ evS (Ko (k + 1)) S_law_54 [s0, some (W ds i), s2, some (.v (.int (N : Int))), s4, s5, s6, s7, s8, s9, s10, s11, s12, s13, s14, s15, s16, s17, s18, s19, s20, s21, s22, s23, s24, s25, s26, s27] = .next [s0, some (W ds (i + 1)), s2, some (.v (.int (N : Int))), s4, s5, s6, s7, s8, s9, s10, s11, s12, s13, s14, s15, s16, s17, some (.v (.int (o : Int))), s19, s20, s21, s22, s23, s24, s25, s26, s27] := by
  have b1 := nxt_lo ds i N (by omega)
  have b2 := nxt_hi ds i N (by omega)
  obtain ⟨o, ho⟩ : ∃ m : Nat, nxt ds i N = (m : Int) := ⟨_, (Int.toNat_of_nonneg b1).symm⟩
  have h := e12 k ds i N (by omega) hi
  rw [ho] at h b2
  refine ⟨o, by omega, ?_⟩
  simp! [h]
theorem q55 (k : Nat) {f : Nat} (hs : sm.length ≤ 10) (hN2 : N ≤ 20) (hG : Good es N) (hf : f < N) : evS (Ko (k + 2)) S_law_55 [s0, s1, s2, s3, some (.v (.tup (es.map eD))), s5, some (.v (.tup (sm.map fI))), s7, s8, s9, s10, s11, s12, s13, s14, s15, s16, s17, some (.v (.int (f : Int))), s19, s20, s21, s22, s23, s24, s25, s26, s27] = .next [s0, s1, s2, s3, some (.v (.tup (es.map eD))), s5, some (.v (.tup (sm.map fI))), s7, s8, s9, s10, s11, s12, s13, s14, s15, s16, s17, some (.v (.int (f : Int))), some (.v (rowN (ordL es sm N f))), s20, s21, s22, s23, s24, s25, s26, s27] := by
  have h := e6 k es sm (.tup (sm.map fI)) N f (it_sm sm) hN2 (by omega) hG hf
  simp! [h]
theorem ent_round (k : Nat) {evs ring : List (Fin es.length)} (he : evs.length ≤ 100) (hr : ring.length ≤ 100) :
    rnd (Ko (k + 1)) (.v 16) B_law_52 [16, 17] (rowN (ring.map Fin.val)) [s0, s1, s2, s3, some (.v (.tup (es.map eD))), none, s6, s7, s8, s9, s10, s11, s12, s13, s14, some (.v (.tup (evs.map fI))), none, none, s18, s19, s20, s21, s22, s23, s24, s25, s26, s27] = .next [s0, s1, s2, s3, some (.v (.tup (es.map eD))), none, s6, s7, s8, s9, s10, s11, s12, s13, s14, some (.v (.tup (evs.map fI))), none, none, s18, s19, s20, s21, s22, s23, s24, s25, s26, s27] := by
  have h1 : evs.length ≤ 100000 := by omega
  have h2 : ring.length ≤ 100000 := by omega
  have h8 := e8 k es evs ring (by omega) (by omega)
  have hel : (entF es evs ring).length ≤ evs.length := List.length_filter_le _ _
  have hel' : (entF es evs ring).length ≤ 100000 := by omega
  have g := Gd_fI (entF es evs ring) (by omega)
  have c1 : pv (Ko (k + 1)) C_law_45 [s0, s1, s2, s3, some (.v (.tup (es.map eD))), none, s6, s7, s8, s9, s10, s11, s12, s13, s14, some (.v (.tup (evs.map fI))), some (.v (rowN (ring.map Fin.val))), none, s18, s19, s20, s21, s22, s23, s24, s25, s26, s27] = some (.l ((ring.map fun k => (ed es k).s).map nI)) := by
    rw [List.map_map]
    refine pv_mapc (qs := [rowN (ring.map Fin.val)]) fI _ (by simp!) (by simp!) (by rw [walk_val, items_rowN, fI_nI]) h2 fun e _ => ?_
    have hed : es[(e : Nat)] = ed es e := rfl
    simp! [fI, hed]
    rfl
  have c2 : pv (Ko (k + 1)) C_law_47 [s0, s1, s2, s3, some (.v (.tup (es.map eD))), none, s6, s7, s8, s9, s10, s11, s12, s13, s14, some (.v (.tup (evs.map fI))), some (.v (rowN (ring.map Fin.val))), some (.l ((ring.map fun k => (ed es k).s).map nI)), s18, s19, s20, s21, s22, s23, s24, s25, s26, s27] = some (.l ((entF es evs ring).map fI)) := by
    refine pv_filc (qs := [.tup (evs.map fI)]) fI _ fI (by simp!) (by simp!) (by rw [walk_val, items_t]) h1 fun e _ => ?_
    have hed : es[(e : Nat)] = ed es e := rfl
    generalize ring.map Fin.val = rv
    generalize (ring.map fun k => (ed es k).s) = rs
    by_cases q1 : e.1 ∈ rv <;> by_cases q2 : (ed es e).t ∈ rs <;> simp! [fI, hed, q1, q2, -o_in_, -o_nin]
  have hasg : assign (.v 16) (.v (rowN (ring.map Fin.val))) [s0, s1, s2, s3, some (.v (.tup (es.map eD))), none, s6, s7, s8, s9, s10, s11, s12, s13, s14, some (.v (.tup (evs.map fI))), none, none, s18, s19, s20, s21, s22, s23, s24, s25, s26, s27] = some [s0, s1, s2, s3, some (.v (.tup (es.map eD))), none, s6, s7, s8, s9, s10, s11, s12, s13, s14, some (.v (.tup (evs.map fI))), some (.v (rowN (ring.map Fin.val))), none, s18, s19, s20, s21, s22, s23, s24, s25, s26, s27] := by simp!
  generalize ring.map Fin.val = rv at h8 c1 c2 hasg ⊢
  generalize (ring.map fun k => (ed es k).s).map nI = rs at c1 c2
  generalize entF es evs ring = F at h8 hel' g c2
  have a1 : evS (Ko (k + 1)) S_law_46 [s0, s1, s2, s3, some (.v (.tup (es.map eD))), none, s6, s7, s8, s9, s10, s11, s12, s13, s14, some (.v (.tup (evs.map fI))), some (.v (rowN rv)), none, s18, s19, s20, s21, s22, s23, s24, s25, s26, s27] = .next [s0, s1, s2, s3, some (.v (.tup (es.map eD))), none, s6, s7, s8, s9, s10, s11, s12, s13, s14, some (.v (.tup (evs.map fI))), some (.v (rowN rv)), some (.l rs), s18, s19, s20, s21, s22, s23, s24, s25, s26, s27] := by
    simp! [-uC_law_45, c1]
  have a2 : evS (Ko (k + 1)) S_law_51 [s0, s1, s2, s3, some (.v (.tup (es.map eD))), none, s6, s7, s8, s9, s10, s11, s12, s13, s14, some (.v (.tup (evs.map fI))), some (.v (rowN rv)), some (.l rs), s18, s19, s20, s21, s22, s23, s24, s25, s26, s27] = .next [s0, s1, s2, s3, some (.v (.tup (es.map eD))), none, s6, s7, s8, s9, s10, s11, s12, s13, s14, some (.v (.tup (evs.map fI))), some (.v (rowN rv)), some (.l rs), s18, s19, s20, s21, s22, s23, s24, s25, s26, s27] := by
    simp! [-uC_law_47, c2, h8, hel', g]
  have hB : B_law_52 = .cons S_law_46 (.cons S_law_51 .nil) := rfl
  rw [rnd_eq, hasg, toFl_some, flb_next, kBody_eq, hB, evSs_next a1 (evSs_next a2 evSs_nil'), kilF_next]
  simp!
theorem q53 (k : Nat) (hl : es.length ≤ 10) (hs : sm.length ≤ 10) (hG : Good es N) : evS (Ko (k + 1)) S_law_53 [s0, s1, s2, s3, some (.v (.tup (es.map eD))), none, s6, s7, s8, s9, s10, s11, s12, some (.l ((fnd es sm N).map rowN)), s14, some (.v (.tup ((fins es.length).map fI))), none, none, s18, s19, s20, s21, s22, s23, s24, s25, s26, s27] = .next [s0, s1, s2, s3, some (.v (.tup (es.map eD))), none, s6, s7, s8, s9, s10, s11, s12, some (.v (.lst ((fnd es sm N).map rowN))), s14, some (.v (.tup ((fins es.length).map fI))), none, none, s18, s19, s20, s21, s22, s23, s24, s25, s26, s27] := by
  have hL := (forL_foldN (body := rnd (Ko (k + 1)) (.v 16) B_law_52 [16, 17]) (fun _ : Unit => [s0, s1, s2, s3, some (.v (.tup (es.map eD))), none, s6, s7, s8, s9, s10, s11, s12, some (.v (.lst ((fnd es sm N).map rowN))), s14, some (.v (.tup ((fins es.length).map fI))), none, none, s18, s19, s20, s21, s22, s23, s24, s25, s26, s27]) (fun _ _ => ()) (fun _ _ => True) rowN (l := fnd es sm N) (b := ()) (n := 0) trivial fun i a ha b _ => by
    obtain ⟨e, _, rfl⟩ := (fnd_mem hG a).mp (List.mem_of_getElem? ha)
    have : (owF es sm N e).length ≤ sm.length := List.length_filter_le _ _
    exact ⟨.inl (ent_round k (by rw [fins_len]; omega) (by omega)), trivial⟩).1
  generalize (fins es.length).map fI = F at hL ⊢
  generalize (fnd es sm N).map rowN = L at hL ⊢
  simp! [evS_forK, -uB_law_52, hL]
end
end Tk06
end
section
/-! K06v: the law's turn: what lies on no ring goes forward in the order. -/
namespace Tk06
open Pv Pu
local macro_rules
  | `(tactic| simp! $[$l:location]?) => `(tactic| simp (maxDischargeDepth := 12) [-Option.bind_some, ob_some, Pv.get, Op.keeps, fetchs, fetch, opD, o_tup, o_lst, o_add, o_sub, o_mul, o_fdiv, o_mod, o_pow, o_neg, o_eq, o_ne, o_lt, o_gt, o_le, o_ge, o_in_, o_nin, o_isN, o_isnN, o_sl, o_len, o_abs, o_max, o_min, o_tupleOf, o_listOf, o_intOf, o_isi, o_get, o_get2, bounds, slD, dlook, flatD, keyOk, backs, ioFits, assigns, forget, T.slots, T.slotss, noOwn, frzSlot, sets, argsOf, iosOf, noDup, putBacks, setAt, putIx, subL, slotsG, isElt] $[$l]?)
  | `(tactic| simp! [$as,*] $[$l:location]?) => `(tactic| simp (maxDischargeDepth := 12) [-Option.bind_some, ob_some, Pv.get, Op.keeps, fetchs, fetch, opD, o_tup, o_lst, o_add, o_sub, o_mul, o_fdiv, o_mod, o_pow, o_neg, o_eq, o_ne, o_lt, o_gt, o_le, o_ge, o_in_, o_nin, o_isN, o_isnN, o_sl, o_len, o_abs, o_max, o_min, o_tupleOf, o_listOf, o_intOf, o_isi, o_get, o_get2, bounds, slD, dlook, flatD, keyOk, backs, ioFits, assigns, forget, T.slots, T.slotss, noOwn, frzSlot, sets, argsOf, iosOf, noDup, putBacks, setAt, putIx, subL, slotsG, isElt, $as,*] $[$l]?)

theorem idx_lt {R : Nat → Nat → Prop} {O : List Nat} {s t : Nat} (hp : O.Pairwise R) (hs : s ∈ O) (ht : t ∈ O) (h : ¬ R t s) (hn : s ≠ t) : O.idxOf s < O.idxOf t := by
  have i1 := List.idxOf_lt_length_of_mem hs
  have i2 := List.idxOf_lt_length_of_mem ht
  have g1 := List.getElem_idxOf i1
  have g2 := List.getElem_idxOf i2
  rcases Nat.lt_trichotomy (O.idxOf s) (O.idxOf t) with h1 | h1 | h1
  · exact h1
  · refine absurd ?_ hn
    rw [← g1, ← g2]
    simp only [h1]
  · have := List.pairwise_iff_getElem.mp hp _ _ i2 i1 h1
    rw [g1, g2] at this
    exact absurd this h
theorem idx_int (O : List Nat) (s : Nat) : (O.map fun (n : Nat) => (n : Int)).idxOf (s : Int) = O.idxOf s := by
  induction O with
  | nil => rfl
  | cons a O ih =>
    rw [List.map_cons, List.idxOf_cons, List.idxOf_cons, ih]
    by_cases h : a = s
    · subst h; simp
    · have : ((a : Int) == (s : Int)) = false := by simpa using h
      rw [this]
      have : (a == s) = false := by simpa using h
      rw [this]
theorem index_rowN {O : List Nat} {s : Nat} (h : s ∈ O) : o_index [rowN O, .int (s : Int)] = some (.v (.int ((O.idxOf s : Nat) : Int))) := by
  have hm : (s : Int) ∈ O.map fun (n : Nat) => (n : Int) := List.mem_map.mpr ⟨s, h, rfl⟩
  simp only [rowN, o_index, toInts_nI, Option.bind_some]
  rw [if_pos hm, idx_int]
section
variable {es : List Ed} {sm : List (Fin es.length)} {N f : Nat}
theorem fwd (hG : Good es N) (hf : f < N) {e : Fin es.length} (he : e ∈ sm) (hn : (ed es e).s ∉ Bh es sm N (ed es e).t) (ho : (ed es e).s ∈ ordL es sm N f) : (ed es e).t ∈ ordL es sm N f ∧ (ordL es sm N f).idxOf (ed es e).s < (ordL es sm N f).idxOf (ed es e).t := by
  have hst : Reach (prs es sm) [(ed es e).s] (ed es e).t := .step (.refl _) (List.mem_map.mpr ⟨e, he, rfl⟩)
  have hs := (Bh_iff hG hf).mp ((ord_perm es sm N f).mem_iff.mp ho)
  have ht : (ed es e).t ∈ ordL es sm N f := (ord_perm es sm N f).mem_iff.mpr ((Bh_iff hG hf).mpr (hs.trans hst))
  refine ⟨ht, idx_lt (ord_sorted es sm N f) ho ht ?_ fun z => hn (by rw [z]; exact Bh_refl (hG.t e))⟩
  have hsub : ∀ x ∈ (ed es e).s :: Bh es sm N (ed es e).t, x ∈ Bh es sm N (ed es e).s := fun x hx => by
    rcases List.mem_cons.mp hx with rfl | hx
    · exact Bh_refl (hG.s e)
    · exact (Bh_iff hG (hG.s e)).mpr (hst.trans ((Bh_iff hG (hG.t e)).mp hx))
  have hnd : ((ed es e).s :: Bh es sm N (ed es e).t).Nodup := List.nodup_cons.mpr ⟨hn, Bh_nodup _ _ _ _⟩
  have hl := hnd.length_le_of_subset fun x hx => hsub x hx
  rw [List.length_cons] at hl
  intro z
  have z' : ltI (ky es sm N (ed es e).s) (ky es sm N (ed es e).t) = false := z
  have : ltI (ky es sm N (ed es e).s) (ky es sm N (ed es e).t) = true := by
    simp only [ky, ltI, Bool.or_eq_true, decide_eq_true_eq]
    left
    omega
  rw [this] at z'
  cases z'
end
section
variable {ds : List Int} {s0 s1 s2 s3 s4 s5 s6 s7 s8 s9 s10 s11 s12 s13 s14 s15 s16 s17 s18 s19 s20 s21 s22 s23 s24 s25 s26 s27 : Option R} {es : List Ed} {sm : List (Fin es.length)} {N : Nat}
theorem q65 (k : Nat) {f : Nat} (hs : sm.length ≤ 10) (hG : Good es N) (hf : f < N) : evS (Ko k) S_law_65 [s0, s1, s2, s3, some (.v (.tup (es.map eD))), none, some (.v (.tup (sm.map fI))), s7, s8, s9, s10, s11, some (.v (.lst ((onF es sm N).map fI))), s13, s14, s15, s16, s17, s18, some (.v (rowN (ordL es sm N f))), s20, s21, s22, s23, s24, s25, s26, s27] = .next [s0, s1, s2, s3, some (.v (.tup (es.map eD))), none, some (.v (.tup (sm.map fI))), s7, s8, s9, s10, s11, some (.v (.lst ((onF es sm N).map fI))), s13, s14, s15, s16, s17, s18, some (.v (rowN (ordL es sm N f))), s20, s21, s22, s23, s24, s25, s26, s27] := by
  have h : sm.length ≤ 100000 := by omega
  have c : pv (Ko k) C_law_61 [s0, s1, s2, s3, some (.v (.tup (es.map eD))), none, some (.v (.tup (sm.map fI))), s7, s8, s9, s10, s11, some (.v (.lst ((onF es sm N).map fI))), s13, s14, s15, s16, s17, s18, some (.v (rowN (ordL es sm N f))), s20, s21, s22, s23, s24, s25, s26, s27] = some (.l ((sm.filter fun _ => false).map fI)) := by
    rw [fI_nI (onF es sm N)]
    refine pv_filc (qs := [.tup (sm.map fI)]) fI (fun _ => false) fI (by simp!) (by simp!) (by rw [walk_val, items_t]) h fun e he => ?_
    have hed : es[(e : Nat)] = ed es e := rfl
    have hx : e.1 ∉ (onF es sm N).map Fin.val → (ed es e).s ∉ Bh es sm N (ed es e).t := fun z y => z (List.mem_map.mpr ⟨e, List.mem_filter.mpr ⟨he, by simpa using y⟩, rfl⟩)
    have hF := fun h1 h2 => fwd (f := f) hG hf he (hx h1) h2
    generalize (onF es sm N).map Fin.val = O at hF ⊢
    generalize ordL es sm N f = L at hF ⊢
    by_cases q1 : e.1 ∈ O
    · simp! [fI, hed, q1, -o_nin]
    · by_cases q2 : (ed es e).s ∈ L
      · obtain ⟨h3, h4⟩ := hF q1 q2
        have i1 := index_rowN q2
        have i2 := index_rowN h3
        generalize L.idxOf (ed es e).s = a at h4 i1
        generalize L.idxOf (ed es e).t = b at h4 i2
        have h5 : ¬ b ≤ a := by omega
        simp! [fI, hed, q1, q2, i1, i2, h5, -o_nin, -o_in_]
      · simp! [fI, hed, q1, q2, -o_nin, -o_in_]
  rw [show (sm.filter fun _ => false) = [] by simp] at c
  simp! [-uC_law_61, c]
end
end Tk06
end
section
/-! K06w: the law's turn: what is ruled. -/
namespace Tk06
open Pv Pu
local macro_rules
  | `(tactic| simp! $[$l:location]?) => `(tactic| simp (maxDischargeDepth := 12) [-Option.bind_some, ob_some, Pv.get, Op.keeps, fetchs, fetch, opD, o_tup, o_lst, o_add, o_sub, o_mul, o_fdiv, o_mod, o_pow, o_neg, o_eq, o_ne, o_lt, o_gt, o_le, o_ge, o_in_, o_nin, o_isN, o_isnN, o_sl, o_len, o_abs, o_max, o_min, o_tupleOf, o_listOf, o_intOf, o_isi, o_get, o_get2, bounds, slD, dlook, flatD, keyOk, backs, ioFits, assigns, forget, T.slots, T.slotss, noOwn, frzSlot, sets, argsOf, iosOf, noDup, putBacks, setAt, putIx, subL, slotsG, isElt] $[$l]?)
  | `(tactic| simp! [$as,*] $[$l:location]?) => `(tactic| simp (maxDischargeDepth := 12) [-Option.bind_some, ob_some, Pv.get, Op.keeps, fetchs, fetch, opD, o_tup, o_lst, o_add, o_sub, o_mul, o_fdiv, o_mod, o_pow, o_neg, o_eq, o_ne, o_lt, o_gt, o_le, o_ge, o_in_, o_nin, o_isN, o_isnN, o_sl, o_len, o_abs, o_max, o_min, o_tupleOf, o_listOf, o_intOf, o_isi, o_get, o_get2, bounds, slD, dlook, flatD, keyOk, backs, ioFits, assigns, forget, T.slots, T.slotss, noOwn, frzSlot, sets, argsOf, iosOf, noDup, putBacks, setAt, putIx, subL, slotsG, isElt, $as,*] $[$l]?)

theorem nin_pD (g : Nat) (p : Nat × Nat) : o_nin [.int (g : Int), pD p] = some (.v (.bl (!decide (p.1 = g) && !decide (p.2 = g)))) := by
  have := nin_rowN g [p.1, p.2]
  rw [show rowN [p.1, p.2] = pD p from rfl] at this
  rw [this]
  congr 3
  rw [Bool.eq_iff_iff]
  simp only [List.mem_cons, List.not_mem_nil, or_false, Bool.not_eq_true', decide_eq_false_iff_not, Bool.and_eq_true, not_or]
  constructor
  · rintro ⟨a, b⟩; exact ⟨fun z => a z.symm, fun z => b z.symm⟩
  · rintro ⟨a, b⟩; exact ⟨fun z => a z.symm, fun z => b z.symm⟩
theorem prs_lef (es : List Ed) (sm : List (Fin es.length)) (g : Nat) : (prs es sm).filter (fun p => !decide (p.1 = g) && !decide (p.2 = g)) = prs es (lefF es sm g) := by
  unfold prs lefF
  rw [List.filter_map]
  rfl
section
variable {ds : List Int} {s0 s1 s2 s3 s4 s5 s6 s7 s8 s9 s10 s11 s12 s13 s14 s15 s16 s17 s18 s19 s20 s21 s22 s23 s24 s25 s26 s27 : Option R} {es : List Ed} {sm : List (Fin es.length)} {N : Nat}
noncomputable def freF (es : List Ed) (sm : List (Fin es.length)) (N f g : Nat) : List Nat := if g = f then [] else Bh es (lefF es sm g) N f
theorem q81 (k : Nat) {f g : Nat} (hs : sm.length ≤ 10) (hG : Good es N) (hf : f < N) : evS (Ko (k + 1)) S_law_81 [s0, s1, s2, s3, s4, s5, s6, some (.v (.lst ((prs es sm).map pD))), s8, s9, s10, s11, s12, s13, s14, s15, s16, s17, some (.v (.int (f : Int))), s19, s20, s21, some (.v (.int (g : Int))), s23, s24, s25, s26, none] = .next [s0, s1, s2, s3, s4, s5, s6, some (.v (.lst ((prs es sm).map pD))), s8, s9, s10, s11, s12, s13, s14, s15, s16, s17, some (.v (.int (f : Int))), s19, s20, s21, some (.v (.int (g : Int))), some (.l ((freF es sm N f g).map nI)), s24, s25, s26, none] := by
  have h : (prs es sm).length ≤ 100000 := by rw [prs_len]; omega
  have hll : (lefF es sm g).length ≤ sm.length := List.length_filter_le _ _
  have h15 := e15x k (es := es) (sm := lefF es sm g) (N := N) (x := f) (by omega) hG hf
  have c : pv (Ko (k + 1)) C_law_80 [s0, s1, s2, s3, s4, s5, s6, some (.v (.lst ((prs es sm).map pD))), s8, s9, s10, s11, s12, s13, s14, s15, s16, s17, some (.v (.int (f : Int))), s19, s20, s21, some (.v (.int (g : Int))), s23, s24, s25, s26, none] = some (.l ((prs es (lefF es sm g)).map pD)) := by
    rw [← prs_lef]
    refine pv_filc (qs := [.lst ((prs es sm).map pD)]) pD _ pD (by simp!) (by simp!) (by rw [walk_val]; rfl) h fun p _ => ?_
    have hn := nin_pD g p
    generalize (!decide (p.1 = g) && !decide (p.2 = g)) = b at hn ⊢
    cases b <;> simp! [hn, -o_nin]
  unfold freF
  generalize (prs es (lefF es sm g)).map pD = L at h15 c
  generalize Bh es (lefF es sm g) N f = B at h15 ⊢
  by_cases q : g = f
  · rw [if_pos q]
    simp! [-uC_law_80, c, h15, q]
  · rw [if_neg q]
    simp! [-uC_law_80, c, h15, q]
theorem ruled_eq (f g : Nat) : rulF es sm N f g = (Bh es sm N f).filter fun x => !decide (x ∈ freF es sm N f g) := by
  unfold rulF freF
  by_cases q : g = f
  · rw [if_pos q, if_pos q]; simp; exact (List.filter_eq_self.mpr fun _ _ => rfl).symm
  · rw [if_neg q, if_neg q]
theorem q86 (k : Nat) {f g : Nat} (hs : sm.length ≤ 10) (hN2 : N ≤ 20) (hG : Good es N) (hf : f < N) : evS (Ko (k + 2)) S_law_86 [s0, s1, s2, s3, some (.v (.tup (es.map eD))), s5, some (.v (.tup (sm.map fI))), s7, s8, some (.m (bL es sm N)), s10, s11, s12, s13, none, s15, s16, s17, some (.v (.int (f : Int))), s19, s20, s21, some (.v (.int (g : Int))), some (.l ((freF es sm N f g).map nI)), s24, s25, s26, s27] = .next [s0, s1, s2, s3, some (.v (.tup (es.map eD))), s5, some (.v (.tup (sm.map fI))), s7, s8, some (.m (bL es sm N)), s10, s11, s12, s13, none, s15, s16, s17, some (.v (.int (f : Int))), s19, s20, s21, some (.v (.int (g : Int))), some (.l ((freF es sm N f g).map nI)), s24, s25, s26, s27] := by
  have h10 := e10 k es sm (.tup (sm.map fI)) N f g (it_sm sm) hN2 (by omega) hG hf
  have hl := Bh_len es sm N f
  have hB : (Bh es sm N f).length ≤ 100000 := by omega
  have hr : (rulF es sm N f g).length ≤ 20 := by
    rw [ruled_eq]
    exact Nat.le_trans (List.length_filter_le _ _) (by omega)
  have g1 := Gd_rowN (rulF es sm N f g) (by omega)
  have hr' : (rulF es sm N f g).length ≤ 100000 := by omega
  have hb : mlook (bL es sm N) (.int (f : Int)) = some (.lst ((Bh es sm N f).map nI)) := bL_look hf
  have c : pv (Ko (k + 2)) C_law_82 [s0, s1, s2, s3, some (.v (.tup (es.map eD))), s5, some (.v (.tup (sm.map fI))), s7, s8, some (.m (bL es sm N)), s10, s11, s12, s13, none, s15, s16, s17, some (.v (.int (f : Int))), s19, s20, s21, some (.v (.int (g : Int))), some (.l ((freF es sm N f g).map nI)), s24, s25, s26, s27] = some (.l ((rulF es sm N f g).map nI)) := by
    rw [ruled_eq]
    generalize freF es sm N f g = F
    refine pv_filc (qs := [.lst ((Bh es sm N f).map nI)]) nI _ nI (by simp!) (by simp! [hb]) (by rw [walk_val]; rfl) hB fun x _ => ?_
    by_cases q1 : x ∈ F <;> simp! [nI, q1, -o_nin]
  generalize rulF es sm N f g = U at h10 g1 hr' c
  generalize (freF es sm N f g).map nI = F at c ⊢
  simp only [rowN] at g1 h10
  simp! [-uC_law_82, c, h10, g1, hr']
end
end Tk06
end
section
/-! K06x: the law's turn: the least sums. -/
namespace Tk06
open Pv Pu
local macro_rules
  | `(tactic| simp! $[$l:location]?) => `(tactic| simp (maxDischargeDepth := 12) [-Option.bind_some, ob_some, Pv.get, Op.keeps, fetchs, fetch, opD, o_tup, o_lst, o_add, o_sub, o_mul, o_fdiv, o_mod, o_pow, o_neg, o_eq, o_ne, o_lt, o_gt, o_le, o_ge, o_in_, o_nin, o_isN, o_isnN, o_sl, o_len, o_abs, o_max, o_min, o_tupleOf, o_listOf, o_intOf, o_isi, o_get, o_get2, bounds, slD, dlook, flatD, keyOk, backs, ioFits, assigns, forget, T.slots, T.slotss, noOwn, frzSlot, sets, argsOf, iosOf, noDup, putBacks, setAt, putIx, subL, slotsG, isElt] $[$l]?)
  | `(tactic| simp! [$as,*] $[$l:location]?) => `(tactic| simp (maxDischargeDepth := 12) [-Option.bind_some, ob_some, Pv.get, Op.keeps, fetchs, fetch, opD, o_tup, o_lst, o_add, o_sub, o_mul, o_fdiv, o_mod, o_pow, o_neg, o_eq, o_ne, o_lt, o_gt, o_le, o_ge, o_in_, o_nin, o_isN, o_isnN, o_sl, o_len, o_abs, o_max, o_min, o_tupleOf, o_listOf, o_intOf, o_isi, o_get, o_get2, bounds, slD, dlook, flatD, keyOk, backs, ioFits, assigns, forget, T.slots, T.slotss, noOwn, frzSlot, sets, argsOf, iosOf, noDup, putBacks, setAt, putIx, subL, slotsG, isElt, $as,*] $[$l]?)

/-- one edge, as the law takes it -/
def relB (es : List Ed) (l : List (Nat × Nat)) (k : Fin es.length) : List (Nat × Nat) := match lkG l (ed es k).s with
  | none => l
  | some d => putG l (ed es k).t (match lkG l (ed es k).t with | none => d + (ed es k).c | some d' => min (d + (ed es k).c) d')
theorem relB_F (es : List Ed) (l : List (Nat × Nat)) (k : Fin es.length) : lkG (relB es l k) = relF (lkG l) ((ed es k).s, (ed es k).t, (ed es k).c) := by
  funext v
  unfold relB relF
  simp only
  cases h1 : lkG l (ed es k).s with
  | none => rfl
  | some d =>
    simp only
    rw [lk_putG]
    by_cases hv : v = (ed es k).t
    · rw [if_pos hv, if_pos hv.symm] <;> rfl
    · rw [if_neg hv, if_neg fun z => hv z.symm]
theorem Ks.relB {es : List Ed} {N : Nat} {l : List (Nat × Nat)} (h : Ks N l) (hG : Good es N) (k : Fin es.length) : Ks N (relB es l k) := by
  unfold Tk06.relB
  cases lkG l (ed es k).s with
  | none => exact h
  | some d => exact h.put (hG.t k) _
theorem foldB_F (es : List Ed) : ∀ (sm : List (Fin es.length)) (l : List (Nat × Nat)), lkG (sm.foldl (relB es) l) = (edg es sm).foldl relF (lkG l)
  | [], l => rfl
  | k :: sm, l => by
    rw [List.foldl_cons, foldB_F es sm, relB_F]
    rfl
def itB (es : List Ed) (sm : List (Fin es.length)) : Nat → List (Nat × Nat) → List (Nat × Nat)
  | 0, l => l
  | n + 1, l => itB es sm n (sm.foldl (relB es) l)
theorem itB_F (es : List Ed) (sm : List (Fin es.length)) : ∀ (n : Nat) (l : List (Nat × Nat)), lkG (itB es sm n l) = itR (edg es sm) n (lkG l)
  | 0, l => rfl
  | n + 1, l => by
    rw [itB, itB_F es sm n, foldB_F]
    rfl
section
variable {ds : List Int} {s0 s1 s2 s3 s4 s5 s6 s7 s8 s9 s10 s11 s12 s13 s14 s15 s16 s17 s18 s19 s20 s21 s22 s23 s24 s25 s26 s27 : Option R} {es : List Ed} {sm : List (Fin es.length)} {N : Nat}
theorem q66 (k : Nat) {f : Nat} : evS (Ko k) S_law_66 [s0, s1, s2, s3, s4, s5, s6, s7, s8, s9, s10, s11, s12, s13, s14, s15, s16, s17, some (.v (.int (f : Int))), s19, s20, s21, s22, s23, s24, s25, s26, s27] = .next [s0, s1, s2, s3, s4, s5, s6, s7, s8, s9, s10, s11, s12, s13, s14, s15, s16, s17, some (.v (.int (f : Int))), s19, some (.m (bst [(f, 0)])), s21, s22, s23, s24, s25, s26, s27] := by
  have z : mhas [] (D.int (f : Int)) = false := rfl
  simp! [bst, kvG, nI, o_dic, pairUp, mputs, mput, z]
theorem best_round {C : Ctx} {l : List (Nat × Nat)} {e : Fin es.length} (hl : l.length ≤ 1000) : rnd C (.v 5) B_law_72 [5, 14] (fI e) [s0, s1, s2, s3, some (.v (.tup (es.map eD))), none, s6, s7, s8, s9, s10, s11, s12, s13, none, s15, s16, s17, s18, s19, some (.m (bst l)), s21, s22, s23, s24, s25, s26, s27] = .next [s0, s1, s2, s3, some (.v (.tup (es.map eD))), none, s6, s7, s8, s9, s10, s11, s12, s13, none, s15, s16, s17, s18, s19, some (.m (bst (relB es l e))), s21, s22, s23, s24, s25, s26, s27] := by
  have hed : es[(e : Nat)] = ed es e := rfl
  have h1 : (bst l).length ≤ 100000 := by rw [bst_len]; omega
  have a2 : evT C Q_law_67 [s0, s1, s2, s3, some (.v (.tup (es.map eD))), some (.v (fI e)), s6, s7, s8, s9, s10, s11, s12, s13, none, s15, s16, s17, s18, s19, some (.m (bst l)), s21, s22, s23, s24, s25, s26, s27] = .ok (lkG l (ed es e).s).isSome [s0, s1, s2, s3, some (.v (.tup (es.map eD))), some (.v (fI e)), s6, s7, s8, s9, s10, s11, s12, s13, none, s15, s16, s17, s18, s19, some (.m (bst l)), s21, s22, s23, s24, s25, s26, s27] := by
    simp! [bst_has, fI, hed]
  have hasg : assign (.v 5) (.v (fI e)) [s0, s1, s2, s3, some (.v (.tup (es.map eD))), none, s6, s7, s8, s9, s10, s11, s12, s13, none, s15, s16, s17, s18, s19, some (.m (bst l)), s21, s22, s23, s24, s25, s26, s27] = some [s0, s1, s2, s3, some (.v (.tup (es.map eD))), some (.v (fI e)), s6, s7, s8, s9, s10, s11, s12, s13, none, s15, s16, s17, s18, s19, some (.m (bst l)), s21, s22, s23, s24, s25, s26, s27] := by simp!
  have hB : B_law_72 = .cons (.ife Q_law_67 (.cons S_law_68 (.cons S_law_69 .nil)) .nil) .nil := rfl
  rw [rnd_eq, hasg, toFl_some, flb_next, kBody_eq, hB]
  cases hs : lkG l (ed es e).s with
  | none =>
    rw [hs] at a2
    rw [evSs_next (ife_f (x := .cons S_law_68 (.cons S_law_69 .nil)) (y := .nil) a2 evSs_nil') evSs_nil', kilF_next]
    have : relB es l e = l := by unfold relB; rw [hs]
    rw [this]
    simp!
  | some d =>
    rw [hs] at a2
    have a3 : evS C S_law_68 [s0, s1, s2, s3, some (.v (.tup (es.map eD))), some (.v (fI e)), s6, s7, s8, s9, s10, s11, s12, s13, none, s15, s16, s17, s18, s19, some (.m (bst l)), s21, s22, s23, s24, s25, s26, s27] = .next [s0, s1, s2, s3, some (.v (.tup (es.map eD))), some (.v (fI e)), s6, s7, s8, s9, s10, s11, s12, s13, some (.v (.int ((d + (ed es e).c : Nat) : Int))), s15, s16, s17, s18, s19, some (.m (bst l)), s21, s22, s23, s24, s25, s26, s27] := by
      simp! [fI, hed, bst_look, hs, nI]
    have a4 : evS C S_law_69 [s0, s1, s2, s3, some (.v (.tup (es.map eD))), some (.v (fI e)), s6, s7, s8, s9, s10, s11, s12, s13, some (.v (.int ((d + (ed es e).c : Nat) : Int))), s15, s16, s17, s18, s19, some (.m (bst l)), s21, s22, s23, s24, s25, s26, s27] = .next [s0, s1, s2, s3, some (.v (.tup (es.map eD))), some (.v (fI e)), s6, s7, s8, s9, s10, s11, s12, s13, some (.v (.int ((d + (ed es e).c : Nat) : Int))), s15, s16, s17, s18, s19, some (.m (bst (relB es l e))), s21, s22, s23, s24, s25, s26, s27] := by
      unfold relB
      rw [hs]
      simp only
      rw [← bst_put]
      generalize d + (ed es e).c = dc
      have hnr : noRow (.int (dc : Int)) = true := rfl
      cases ht : lkG l (ed es e).t with
      | none => simp! [fI, hed, bst_look, ht, h1, hnr]
      | some d' =>
        simp only
        by_cases hc : d' < dc
        · rw [Nat.min_eq_right (by omega)]
          have hc' : (d' : Int) < (dc : Int) := by omega
          simp! [fI, hed, bst_look, ht, h1, hnr, nI, hc', hc]
        · rw [Nat.min_eq_left (by omega)]
          have hc' : ¬ (d' : Int) < (dc : Int) := by omega
          simp! [fI, hed, bst_look, ht, h1, hnr, nI, hc', hc]
    rw [evSs_next (ife_t (y := .nil) a2 (evSs_next a3 (evSs_next a4 evSs_nil'))) evSs_nil', kilF_next]
    simp!
end
end Tk06
end
section
/-! K06y: the law's turn: the least sums are the same. -/
namespace Tk06
open Pv Pu
local macro_rules
  | `(tactic| simp! $[$l:location]?) => `(tactic| simp (maxDischargeDepth := 12) [-Option.bind_some, ob_some, Pv.get, Op.keeps, fetchs, fetch, opD, o_tup, o_lst, o_add, o_sub, o_mul, o_fdiv, o_mod, o_pow, o_neg, o_eq, o_ne, o_lt, o_gt, o_le, o_ge, o_in_, o_nin, o_isN, o_isnN, o_sl, o_len, o_abs, o_max, o_min, o_tupleOf, o_listOf, o_intOf, o_isi, o_get, o_get2, bounds, slD, dlook, flatD, keyOk, backs, ioFits, assigns, forget, T.slots, T.slotss, noOwn, frzSlot, sets, argsOf, iosOf, noDup, putBacks, setAt, putIx, subL, slotsG, isElt] $[$l]?)
  | `(tactic| simp! [$as,*] $[$l:location]?) => `(tactic| simp (maxDischargeDepth := 12) [-Option.bind_some, ob_some, Pv.get, Op.keeps, fetchs, fetch, opD, o_tup, o_lst, o_add, o_sub, o_mul, o_fdiv, o_mod, o_pow, o_neg, o_eq, o_ne, o_lt, o_gt, o_le, o_ge, o_in_, o_nin, o_isN, o_isnN, o_sl, o_len, o_abs, o_max, o_min, o_tupleOf, o_listOf, o_intOf, o_isi, o_get, o_get2, bounds, slD, dlook, flatD, keyOk, backs, ioFits, assigns, forget, T.slots, T.slotss, noOwn, frzSlot, sets, argsOf, iosOf, noDup, putBacks, setAt, putIx, subL, slotsG, isElt, $as,*] $[$l]?)

section
variable {ds : List Int} {s0 s1 s2 s3 s4 s5 s6 s7 s8 s9 s10 s11 s12 s13 s14 s15 s16 s17 s18 s19 s20 s21 s22 s23 s24 s25 s26 s27 : Option R} {es : List Ed} {sm : List (Fin es.length)} {N : Nat}
theorem q73 {C : Ctx} {l : List (Nat × Nat)} (hN : N ≤ 20) (hG : Good es N) (hl : Ks N l) : evS C S_law_73 [s0, s1, s2, s3, some (.v (.tup (es.map eD))), none, some (.v (.tup (sm.map fI))), s7, s8, s9, s10, s11, s12, s13, none, s15, s16, s17, s18, s19, some (.m (bst l)), s21, s22, s23, s24, s25, s26, s27] = .next [s0, s1, s2, s3, some (.v (.tup (es.map eD))), none, some (.v (.tup (sm.map fI))), s7, s8, s9, s10, s11, s12, s13, none, s15, s16, s17, s18, s19, some (.m (bst (sm.foldl (relB es) l))), s21, s22, s23, s24, s25, s26, s27] ∧ Ks N (sm.foldl (relB es) l) := by
  have hL := forL_fold (body := rnd C (.v 5) B_law_72 [5, 14]) (fun l : List (Nat × Nat) => [s0, s1, s2, s3, some (.v (.tup (es.map eD))), none, some (.v (.tup (sm.map fI))), s7, s8, s9, s10, s11, s12, s13, none, s15, s16, s17, s18, s19, some (.m (bst l)), s21, s22, s23, s24, s25, s26, s27]) (relB es) (Ks N) fI (l := sm) (b := l) hl fun e _ b hb => by
    have := hb.len
    exact ⟨.inl (best_round (by omega)), hb.relB hG e⟩
  refine ⟨?_, hL.2⟩
  have h1 := hL.1
  generalize sm.map fI = M at h1 ⊢
  simp! [evS_forK, -uB_law_72, h1]
theorem q75 (k : Nat) {f : Nat} (hN2 : N ≤ 20) (hG : Good es N) (hf : f < N) : ∃ l : List (Nat × Nat), lkG l = itR (edg es sm) (N + 1) (st0 f) ∧ evS (Ko k) S_law_75 [s0, s1, s2, some (.v (.int (N : Int))), some (.v (.tup (es.map eD))), none, some (.v (.tup (sm.map fI))), s7, s8, s9, s10, s11, s12, s13, none, s15, s16, s17, s18, s19, some (.m (bst [(f, 0)])), none, s22, s23, s24, s25, s26, s27] = .next [s0, s1, s2, some (.v (.int (N : Int))), some (.v (.tup (es.map eD))), none, some (.v (.tup (sm.map fI))), s7, s8, s9, s10, s11, s12, s13, none, s15, s16, s17, s18, s19, some (.m (bst l)), none, s22, s23, s24, s25, s26, s27] := by
  have hw := walk_r1 N (by omega)
  have hk0 : Ks N [(f, 0)] := ⟨by simp, by simpa using hf⟩
  have hL := forL_fold (body := rnd (Ko k) (.v 21) B_law_74 [5, 14, 21]) (fun l : List (Nat × Nat) => [s0, s1, s2, some (.v (.int (N : Int))), some (.v (.tup (es.map eD))), none, some (.v (.tup (sm.map fI))), s7, s8, s9, s10, s11, s12, s13, none, s15, s16, s17, s18, s19, some (.m (bst l)), none, s22, s23, s24, s25, s26, s27]) (fun l (_ : Nat) => sm.foldl (relB es) l) (Ks N) (fun (k : Nat) => D.int (k : Int)) (l := List.range (N + 1)) (b := [(f, 0)]) hk0 fun i _ b hb => by
    have h := q73 (C := Ko k) (sm := sm) (s0 := s0) (s1 := s1) (s2 := s2) (s3 := some (.v (.int (N : Int)))) (s7 := s7) (s8 := s8) (s9 := s9) (s10 := s10) (s11 := s11) (s12 := s12) (s13 := s13) (s15 := s15) (s16 := s16) (s17 := s17) (s18 := s18) (s19 := s19) (s21 := some (.v (.int (i : Int)))) (s22 := s22) (s23 := s23) (s24 := s24) (s25 := s25) (s26 := s26) (s27 := s27) hN2 hG hb
    refine ⟨.inl ?_, h.2⟩
    have hasg : assign (.v 21) (.v (.int (i : Int))) [s0, s1, s2, some (.v (.int (N : Int))), some (.v (.tup (es.map eD))), none, some (.v (.tup (sm.map fI))), s7, s8, s9, s10, s11, s12, s13, none, s15, s16, s17, s18, s19, some (.m (bst b)), none, s22, s23, s24, s25, s26, s27] = some [s0, s1, s2, some (.v (.int (N : Int))), some (.v (.tup (es.map eD))), none, some (.v (.tup (sm.map fI))), s7, s8, s9, s10, s11, s12, s13, none, s15, s16, s17, s18, s19, some (.m (bst b)), some (.v (.int (i : Int))), s22, s23, s24, s25, s26, s27] := by simp!
    have hB : B_law_74 = .cons S_law_73 .nil := rfl
    rw [rnd_eq, hasg, toFl_some, flb_next, kBody_eq, hB, evSs_next h.1 evSs_nil', kilF_next]
    simp!
  rw [foldI (fun l => sm.foldl (relB es) l) _ _ (itB es sm) (fun _ _ => rfl) (fun _ => rfl), List.length_range] at hL
  have hF := itB_F es sm (N + 1) [(f, 0)]
  rw [st_0] at hF
  refine ⟨_, hF, ?_⟩
  generalize itB es sm (N + 1) [(f, 0)] = X at hL
  have h1 := hL.1
  generalize sm.map fI = M at h1 ⊢
  simp! [evS_forK, -uB_law_74, h1, hw]
theorem q79 (k : Nat) {f g : Nat} {l : List (Nat × Nat)} (hl : lkG l = itR (edg es sm) (N + 1) (st0 f)) (hs : sm.length ≤ 10) (hN2 : N ≤ 20) (hG : Good es N) (hf : f < N) : evS (Ko (k + 2)) S_law_79 [s0, s1, s2, s3, some (.v (.tup (es.map eD))), s5, some (.v (.tup (sm.map fI))), s7, s8, s9, s10, s11, s12, s13, s14, s15, s16, s17, some (.v (.int (f : Int))), s19, some (.m (bst l)), s21, some (.v (.int (g : Int))), s23, s24, s25, s26, s27] = .next [s0, s1, s2, s3, some (.v (.tup (es.map eD))), s5, some (.v (.tup (sm.map fI))), s7, s8, s9, s10, s11, s12, s13, s14, s15, s16, s17, some (.v (.int (f : Int))), s19, some (.m (bst l)), s21, some (.v (.int (g : Int))), s23, s24, s25, s26, s27] := by
  have h7 := e7 k es sm (.tup (sm.map fI)) N f g (it_sm sm) hN2 (by omega) hG hf
  have hpl : (plc es sm N).length ≤ N := by
    have : (plc es sm N).length ≤ (List.range N).length := List.length_filter_le _ _
    simpa using this
  have hP : ∀ e ∈ edg es sm, e.2.1 ∈ plc es sm N := fun e he => by
    obtain ⟨k, hk, rfl⟩ := List.mem_map.mp he
    exact plc_t hG hk
  have he := it_same (a := f) hP (n := (plc es sm N).length + 1) (m := N + 1) (by omega) (by omega) g
  rw [he, ← hl] at h7
  cases hv : lkG l g with
  | none =>
    rw [hv] at h7
    simp only [Option.elim] at h7
    simp! [h7, bst_look, hv]
  | some v =>
    rw [hv] at h7
    simp only [Option.elim, nI] at h7
    simp! [h7, bst_look, hv, nI]
end
end Tk06
end
section
/-! K06z: the law's turn: every place; the order. -/
namespace Tk06
open Pv Pu
local macro_rules
  | `(tactic| simp! $[$l:location]?) => `(tactic| simp (maxDischargeDepth := 12) [-Option.bind_some, ob_some, Pv.get, Op.keeps, fetchs, fetch, opD, o_tup, o_lst, o_add, o_sub, o_mul, o_fdiv, o_mod, o_pow, o_neg, o_eq, o_ne, o_lt, o_gt, o_le, o_ge, o_in_, o_nin, o_isN, o_isnN, o_sl, o_len, o_abs, o_max, o_min, o_tupleOf, o_listOf, o_intOf, o_isi, o_get, o_get2, bounds, slD, dlook, flatD, keyOk, backs, ioFits, assigns, forget, T.slots, T.slotss, noOwn, frzSlot, sets, argsOf, iosOf, noDup, putBacks, setAt, putIx, subL, slotsG, isElt] $[$l]?)
  | `(tactic| simp! [$as,*] $[$l:location]?) => `(tactic| simp (maxDischargeDepth := 12) [-Option.bind_some, ob_some, Pv.get, Op.keeps, fetchs, fetch, opD, o_tup, o_lst, o_add, o_sub, o_mul, o_fdiv, o_mod, o_pow, o_neg, o_eq, o_ne, o_lt, o_gt, o_le, o_ge, o_in_, o_nin, o_isN, o_isnN, o_sl, o_len, o_abs, o_max, o_min, o_tupleOf, o_listOf, o_intOf, o_isi, o_get, o_get2, bounds, slD, dlook, flatD, keyOk, backs, ioFits, assigns, forget, T.slots, T.slotss, noOwn, frzSlot, sets, argsOf, iosOf, noDup, putBacks, setAt, putIx, subL, slotsG, isElt, $as,*] $[$l]?)

section
variable {ds : List Int} {s0 s1 s2 s3 s4 s5 s6 s7 s8 s9 s10 s11 s12 s13 s14 s15 s16 s17 s18 s19 s20 s21 s22 s23 s24 s25 s26 s27 : Option R} {es : List Ed} {sm : List (Fin es.length)} {N : Nat}
theorem last_round (k : Nat) {f g : Nat} {l : List (Nat × Nat)} (hl : lkG l = itR (edg es sm) (N + 1) (st0 f)) (hs : sm.length ≤ 10) (hN2 : N ≤ 20) (hG : Good es N) (hf : f < N) : rnd (Ko (k + 2)) (.v 22) B_law_87 [22, 23] (.int (g : Int)) [s0, s1, s2, s3, some (.v (.tup (es.map eD))), s5, some (.v (.tup (sm.map fI))), some (.v (.lst ((prs es sm).map pD))), s8, some (.m (bL es sm N)), s10, s11, s12, s13, none, s15, s16, s17, some (.v (.int (f : Int))), s19, some (.m (bst l)), s21, none, none, s24, s25, s26, none] = .next [s0, s1, s2, s3, some (.v (.tup (es.map eD))), s5, some (.v (.tup (sm.map fI))), some (.v (.lst ((prs es sm).map pD))), s8, some (.m (bL es sm N)), s10, s11, s12, s13, none, s15, s16, s17, some (.v (.int (f : Int))), s19, some (.m (bst l)), s21, none, none, s24, s25, s26, none] := by
  have hasg : assign (.v 22) (.v (.int (g : Int))) [s0, s1, s2, s3, some (.v (.tup (es.map eD))), s5, some (.v (.tup (sm.map fI))), some (.v (.lst ((prs es sm).map pD))), s8, some (.m (bL es sm N)), s10, s11, s12, s13, none, s15, s16, s17, some (.v (.int (f : Int))), s19, some (.m (bst l)), s21, none, none, s24, s25, s26, none] = some [s0, s1, s2, s3, some (.v (.tup (es.map eD))), s5, some (.v (.tup (sm.map fI))), some (.v (.lst ((prs es sm).map pD))), s8, some (.m (bL es sm N)), s10, s11, s12, s13, none, s15, s16, s17, some (.v (.int (f : Int))), s19, some (.m (bst l)), s21, some (.v (.int (g : Int))), none, s24, s25, s26, none] := by simp!
  have hB : B_law_87 = .cons S_law_79 (.cons S_law_81 (.cons S_law_86 .nil)) := rfl
  rw [rnd_eq, hasg, toFl_some, flb_next, kBody_eq, hB, evSs_next (q79 k hl hs hN2 hG hf) (evSs_next (q81 (k + 1) hs hG hf) (evSs_next (q86 k hs hN2 hG hf) evSs_nil')), kilF_next]
  simp!
theorem q88 (k : Nat) {f : Nat} {l : List (Nat × Nat)} (hl : lkG l = itR (edg es sm) (N + 1) (st0 f)) (hs : sm.length ≤ 10) (hN2 : N ≤ 20) (hG : Good es N) (hf : f < N) : evS (Ko (k + 2)) S_law_88 [s0, s1, s2, some (.v (.int (N : Int))), some (.v (.tup (es.map eD))), s5, some (.v (.tup (sm.map fI))), some (.v (.lst ((prs es sm).map pD))), s8, some (.m (bL es sm N)), s10, s11, s12, s13, none, s15, s16, s17, some (.v (.int (f : Int))), s19, some (.m (bst l)), s21, none, none, s24, s25, s26, none] = .next [s0, s1, s2, some (.v (.int (N : Int))), some (.v (.tup (es.map eD))), s5, some (.v (.tup (sm.map fI))), some (.v (.lst ((prs es sm).map pD))), s8, some (.m (bL es sm N)), s10, s11, s12, s13, none, s15, s16, s17, some (.v (.int (f : Int))), s19, some (.m (bst l)), s21, none, none, s24, s25, s26, none] := by
  have hw := walk_rn N (by omega)
  have hL := (forL_foldN (body := rnd (Ko (k + 2)) (.v 22) B_law_87 [22, 23]) (fun _ : Unit => [s0, s1, s2, some (.v (.int (N : Int))), some (.v (.tup (es.map eD))), s5, some (.v (.tup (sm.map fI))), some (.v (.lst ((prs es sm).map pD))), s8, some (.m (bL es sm N)), s10, s11, s12, s13, none, s15, s16, s17, some (.v (.int (f : Int))), s19, some (.m (bst l)), s21, none, none, s24, s25, s26, none]) (fun _ _ => ()) (fun _ _ => True) (fun (k : Nat) => D.int (k : Int)) (l := List.range N) (b := ()) (n := 0) trivial fun i a ha b _ => ⟨.inl (last_round k hl hs hN2 hG hf), trivial⟩).1
  generalize (prs es sm).map pD = P at hL ⊢
  generalize sm.map fI = M at hL ⊢
  simp! [evS_forK, -uB_law_87, hL, hw]
end
section
variable {es : List Ed} {sm : List (Fin es.length)} {N f : Nat}
theorem ord_same : o_sorted [rowN (ordL es sm N f)] = some (.l ((Bh es sm N f).map nI)) := by
  have h := sortN (l := ordL es sm N f) (m := Bh es sm N f) ((ord_perm es sm N f).nodup_iff.mpr (Bh_nodup es sm N f)) (RL_sorted _ _ _) fun x => (ord_perm es sm N f).mem_iff
  simp only [rowN, o_sorted, toInts_nI, Option.map_some, h, List.map_map]
  rfl
theorem ne_same (B : List Nat) : o_ne [.lst (B.map nI), .lst (B.map nI)] = some (.v (.bl false)) := by
  simp [o_ne, eqs, eqsL_nI]
end
end Tk06
end
section
/-! K06A: the law's turn: the order. -/
namespace Tk06
open Pv Pu
local macro_rules
  | `(tactic| simp! $[$l:location]?) => `(tactic| simp (maxDischargeDepth := 12) [-Option.bind_some, ob_some, Pv.get, Op.keeps, fetchs, fetch, opD, o_tup, o_lst, o_add, o_sub, o_mul, o_fdiv, o_mod, o_pow, o_neg, o_eq, o_ne, o_lt, o_gt, o_le, o_ge, o_in_, o_nin, o_isN, o_isnN, o_sl, o_len, o_abs, o_max, o_min, o_tupleOf, o_listOf, o_intOf, o_isi, o_get, o_get2, bounds, slD, dlook, flatD, keyOk, backs, ioFits, assigns, forget, T.slots, T.slotss, noOwn, frzSlot, sets, argsOf, iosOf, noDup, putBacks, setAt, putIx, subL, slotsG, isElt] $[$l]?)
  | `(tactic| simp! [$as,*] $[$l:location]?) => `(tactic| simp (maxDischargeDepth := 12) [-Option.bind_some, ob_some, Pv.get, Op.keeps, fetchs, fetch, opD, o_tup, o_lst, o_add, o_sub, o_mul, o_fdiv, o_mod, o_pow, o_neg, o_eq, o_ne, o_lt, o_gt, o_le, o_ge, o_in_, o_nin, o_isN, o_isnN, o_sl, o_len, o_abs, o_max, o_min, o_tupleOf, o_listOf, o_intOf, o_isi, o_get, o_get2, bounds, slD, dlook, flatD, keyOk, backs, ioFits, assigns, forget, T.slots, T.slotss, noOwn, frzSlot, sets, argsOf, iosOf, noDup, putBacks, setAt, putIx, subL, slotsG, isElt, $as,*] $[$l]?)

theorem walk_r2 (n : Nat) (h : n ≤ 1000) : walk .range2 [.int 1, .int (n : Int)] = some ((List.range (n - 1)).map fun (k : Nat) => D.int ((k + 1 : Nat) : Int)) := by
  have h1 : inR 1 = true := inR_nat (n := 1) (by omega)
  have h2 : inR (n : Int) = true := inR_nat (by omega)
  have e : ((n : Int) - 1).toNat = n - 1 := by omega
  simp only [walk, wRange2, h1, h2, Bool.and_true, if_true, rangeD, e]
  exact congrArg some (List.map_congr_left fun k _ => congrArg D.int (by omega))
theorem ix_row (O : List Nat) (i : Nat) (h : i < O.length) : o_ix [rowN O, .int (i : Int)] = some (.v (.int ((O[i] : Nat) : Int))) := by
  unfold rowN
  rw [ix_tn]
  simp [h, nI]
section
variable {ds : List Int} {s0 s1 s2 s3 s4 s5 s6 s7 s8 s9 s10 s11 s12 s13 s14 s15 s16 s17 s18 s19 s20 s21 s22 s23 s24 s25 s26 s27 : Option R} {es : List Ed} {sm : List (Fin es.length)} {N : Nat}
theorem q60 (k : Nat) {f : Nat} (hN2 : N ≤ 20) (hf : f < N) : evS (Ko k) S_law_60 [s0, s1, s2, s3, s4, none, s6, s7, s8, some (.m (bL es sm N)), s10, s11, s12, s13, s14, s15, s16, s17, some (.v (.int (f : Int))), some (.v (rowN (ordL es sm N f))), s20, s21, s22, s23, s24, s25, s26, s27] = .next [s0, s1, s2, s3, s4, none, s6, s7, s8, some (.m (bL es sm N)), s10, s11, s12, s13, s14, s15, s16, s17, some (.v (.int (f : Int))), some (.v (rowN (ordL es sm N f))), s20, s21, s22, s23, s24, s25, s26, s27] := by
  have hl := Bh_len es sm N f
  have hol : (ordL es sm N f).length ≤ 20 := by rw [(ord_perm es sm N f).length_eq]; omega
  have hw := walk_r2 (ordL es sm N f).length (by omega)
  have hso := ord_same (es := es) (sm := sm) (N := N) (f := f)
  have hne := ne_same (Bh es sm N f)
  have hb : mlook (bL es sm N) (.int (f : Int)) = some (.lst ((Bh es sm N f).map nI)) := bL_look hf
  have hlen : o_len [rowN (ordL es sm N f)] = some (.v (.int ((ordL es sm N f).length : Int))) := by simp [rowN, o_len]
  have c : pv (Ko k) C_law_56 [s0, s1, s2, s3, s4, none, s6, s7, s8, some (.m (bL es sm N)), s10, s11, s12, s13, s14, s15, s16, s17, some (.v (.int (f : Int))), some (.v (rowN (ordL es sm N f))), s20, s21, s22, s23, s24, s25, s26, s27] = some (.l (((List.range ((ordL es sm N f).length - 1)).filter fun _ => false).map nI)) := by
    refine pv_filc (qs := [.int 1, .int ((ordL es sm N f).length : Int)]) (fun (k : Nat) => D.int ((k + 1 : Nat) : Int)) (fun _ => false) nI (by simp!) (by simp! [hlen, -o_len]) hw (by simp; omega) fun j hj => ?_
    have hj' : j + 1 < (ordL es sm N f).length := by have := List.mem_range.mp hj; omega
    have i1 := ix_row (ordL es sm N f) j (by omega)
    have i2 := ix_row (ordL es sm N f) (j + 1) hj'
    have hp := List.pairwise_iff_getElem.mp (ord_sorted es sm N f) j (j + 1) (by omega) hj' (by omega)
    have hin : ∀ x ∈ ordL es sm N f, x < N := fun x hx => Bh_lt ((ord_perm es sm N f).mem_iff.mp hx)
    have b1 : mlook (bL es sm N) (.int (((ordL es sm N f)[j]'(by omega) : Nat) : Int)) = some (.lst ((Bh es sm N ((ordL es sm N f)[j]'(by omega))).map nI)) := bL_look (hin _ (List.getElem_mem _))
    have b2 : mlook (bL es sm N) (.int (((ordL es sm N f)[j + 1] : Nat) : Int)) = some (.lst ((Bh es sm N ((ordL es sm N f)[j + 1])).map nI)) := bL_look (hin _ (List.getElem_mem _))
    generalize (ordL es sm N f)[j]'(by omega) = x at i1 hp b1
    generalize (ordL es sm N f)[j + 1] = y at i2 hp b2
    generalize ordL es sm N f = O at i1 i2 ⊢
    have lx : (Bh es sm N x).length ≤ 100000 := Nat.le_trans (Bh_len es sm N x) (by omega)
    have ly : (Bh es sm N y).length ≤ 100000 := Nat.le_trans (Bh_len es sm N y) (by omega)
    have hgt : o_gtT [.tup [.int (-((Bh es sm N x).length : Int)), .int (x : Int)], .tup [.int (-((Bh es sm N y).length : Int)), .int (y : Int)]] = some (.v (.bl false)) := by
      have : ltI (ky es sm N y) (ky es sm N x) = false := hp
      simp only [ky] at this
      simp only [o_gtT, toInts, Option.bind_some, Option.map_some, this]
    generalize Bh es sm N x = X at b1 hgt lx
    generalize Bh es sm N y = Y at b2 hgt ly
    generalize bL es sm N = BL at b1 b2 ⊢
    have e1 : ((j : Int) + 1 - 1) = (j : Int) := by omega
    have i2' : o_ix [rowN O, .int ((j : Int) + 1)] = some (.v (.int (y : Int))) := i2
    simp! [i1, i2', b1, b2, hgt, e1, lx, ly]
  rw [show ((List.range ((ordL es sm N f).length - 1)).filter fun _ => false) = [] by simp] at c
  generalize ordL es sm N f = O at hso c ⊢
  generalize Bh es sm N f = B at hso hne hb
  simp! [-uC_law_56, c, hso, hne, hb, -o_ne]
end
end Tk06
end
section
/-! K06B: one turn. -/
namespace Tk06
open Pv Pu
local macro_rules
  | `(tactic| simp! $[$l:location]?) => `(tactic| simp (maxDischargeDepth := 12) [-Option.bind_some, ob_some, Pv.get, Op.keeps, fetchs, fetch, opD, o_tup, o_lst, o_add, o_sub, o_mul, o_fdiv, o_mod, o_pow, o_neg, o_eq, o_ne, o_lt, o_gt, o_le, o_ge, o_in_, o_nin, o_isN, o_isnN, o_sl, o_len, o_abs, o_max, o_min, o_tupleOf, o_listOf, o_intOf, o_isi, o_get, o_get2, bounds, slD, dlook, flatD, keyOk, backs, ioFits, assigns, forget, T.slots, T.slotss, noOwn, frzSlot, sets, argsOf, iosOf, noDup, putBacks, setAt, putIx, subL, slotsG, isElt] $[$l]?)
  | `(tactic| simp! [$as,*] $[$l:location]?) => `(tactic| simp (maxDischargeDepth := 12) [-Option.bind_some, ob_some, Pv.get, Op.keeps, fetchs, fetch, opD, o_tup, o_lst, o_add, o_sub, o_mul, o_fdiv, o_mod, o_pow, o_neg, o_eq, o_ne, o_lt, o_gt, o_le, o_ge, o_in_, o_nin, o_isN, o_isnN, o_sl, o_len, o_abs, o_max, o_min, o_tupleOf, o_listOf, o_intOf, o_isi, o_get, o_get2, bounds, slD, dlook, flatD, keyOk, backs, ioFits, assigns, forget, T.slots, T.slotss, noOwn, frzSlot, sets, argsOf, iosOf, noDup, putBacks, setAt, putIx, subL, slotsG, isElt, $as,*] $[$l]?)

theorem turn (k : Nat) {ds : List Int} {s0 : Option R} {i : Int} (hi : 0 ≤ i) (m : Option R) : ∃ (i' : Int) (σ' : Env), 0 ≤ i' ∧ evSs (Ko (k + 10)) B_law_89 [s0, some (W ds i), m, none, none, none, none, none, none, none, none, none, none, none, none, none, none, none, none, none, none, none, none, none, none, none, none, none] = .next σ' ∧ forget [2, 3, 4, 5, 6, 7, 8, 9, 10, 11, 12, 13, 14, 15, 16, 17, 18, 19, 20, 21, 22, 23] σ' = [s0, some (W ds i'), none, none, none, none, none, none, none, none, none, none, none, none, none, none, none, none, none, none, none, none, none, none, none, none, none, none] := by
  obtain ⟨i1, N, hi1, hN, hN7, h2⟩ := q2 (ds := ds) (s0 := s0) (s2 := m) (s5 := none) (s6 := none) (s7 := none) (s8 := none) (s9 := none) (s10 := none) (s11 := none) (s12 := none) (s13 := none) (s14 := none) (s15 := none) (s16 := none) (s17 := none) (s18 := none) (s19 := none) (s20 := none) (s21 := none) (s22 := none) (s23 := none) (s24 := none) (s25 := none) (s26 := none) (s27 := none) k hi
  obtain ⟨i2, es, hi2, hl, hG, h5⟩ := q5 (ds := ds) (s0 := s0) (s2 := m) (s5 := none) (s6 := none) (s7 := none) (s8 := none) (s9 := none) (s10 := none) (s11 := none) (s12 := none) (s13 := none) (s14 := none) (s15 := none) (s16 := none) (s17 := none) (s18 := none) (s19 := none) (s20 := none) (s21 := none) (s22 := none) (s23 := none) (s24 := none) (s25 := none) (s26 := none) (s27 := none) k hi1 hN rfl
  obtain ⟨i3, sm, hi3, _, hs, h8⟩ := q8 (ds := ds) (s0 := s0) (s2 := m) (s3 := some (.v (.int (N : Int)))) (s7 := none) (s8 := none) (s9 := none) (s10 := none) (s11 := none) (s12 := none) (s13 := none) (s14 := none) (s15 := none) (s16 := none) (s17 := none) (s18 := none) (s19 := none) (s20 := none) (s21 := none) (s22 := none) (s23 := none) (s24 := none) (s25 := none) (s26 := none) (s27 := none) k hi2 hl
  have hN2 : N ≤ 20 := by omega
  obtain ⟨i4, hi4, h25⟩ := q25 (ds := ds) (es := es) (sm := sm) (N := N) (s0 := s0) (s2 := m) (s5 := none) (s7 := some (.v (.lst ((prs es sm).map pD)))) (s12 := none) (s13 := none) (s14 := none) (s15 := none) (s16 := none) (s17 := none) (s18 := none) (s19 := none) (s20 := none) (s21 := none) (s22 := none) (s23 := none) (s24 := none) (s25 := none) (s26 := none) (s27 := none) (k + 9) hi3 hN hs hN2 hG
  obtain ⟨f, hf, h54⟩ := q54 (ds := ds) (N := N) (s0 := s0) (s2 := m) (s4 := some (.v (.tup (es.map eD)))) (s5 := none) (s6 := some (.v (.tup (sm.map fI)))) (s7 := some (.v (.lst ((prs es sm).map pD)))) (s8 := some (.v (.lst ((prt es sm).map pD)))) (s9 := some (.m (bL es sm N))) (s10 := none) (s11 := none) (s12 := some (.v (.lst ((onF es sm N).map fI)))) (s13 := some (.v (.lst ((fnd es sm N).map rowN)))) (s14 := none) (s15 := some (.v (.tup ((fins es.length).map fI)))) (s16 := none) (s17 := none) (s19 := none) (s20 := none) (s21 := none) (s22 := none) (s23 := none) (s24 := none) (s25 := none) (s26 := none) (s27 := none) (k + 9) hi4 hN
  obtain ⟨l, hlk, h75⟩ := q75 (es := es) (sm := sm) (N := N) (s0 := s0) (s1 := some (W ds (i4 + 1))) (s2 := m) (s7 := some (.v (.lst ((prs es sm).map pD)))) (s8 := some (.v (.lst ((prt es sm).map pD)))) (s9 := some (.m (bL es sm N))) (s10 := none) (s11 := none) (s12 := some (.v (.lst ((onF es sm N).map fI)))) (s13 := some (.v (.lst ((fnd es sm N).map rowN)))) (s15 := some (.v (.tup ((fins es.length).map fI)))) (s16 := none) (s17 := none) (s18 := some (.v (.int (f : Int)))) (s19 := some (.v (rowN (ordL es sm N f)))) (s22 := none) (s23 := none) (s24 := none) (s25 := none) (s26 := none) (s27 := none) (k + 10) hN2 hG hf
  refine ⟨i4 + 1, ?σ, by omega, ?_, ?_⟩
  rotate_left
  unfold B_law_89
  refine evSs_next h2 ?_
  refine evSs_next h5 ?_
  refine evSs_next (q6 k hl) ?_
  refine evSs_next h8 ?_
  refine evSs_next (q10 (k + 10) hs) ?_
  refine evSs_next (q12 (k + 10) hs) ?_
  refine evSs_next (q14 (k + 9) hs hN hN2 hG) ?_
  refine evSs_next h25 ?_
  refine evSs_next (q27 (k + 10) hs hG) ?_
  refine evSs_next (q28 (es := es) (k + 10)) ?_
  refine evSs_next (q33 (k + 10) hs hG) ?_
  refine evSs_next (q38 (k + 7) hs hN2 hG) ?_
  refine evSs_next (q43 (k + 8) hs hN2 hG) ?_
  refine evSs_next (q44 (k + 10) hl) ?_
  refine evSs_next (q53 (k + 9) hl hs hG) ?_
  refine evSs_next h54 ?_
  refine evSs_next (q55 (k + 8) hs hN2 hG hf) ?_
  refine evSs_next (q60 (k + 10) hN2 hf) ?_
  refine evSs_next (q65 (k + 10) hs hG hf) ?_
  refine evSs_next (q66 (k + 10)) ?_
  refine evSs_next h75 ?_
  refine evSs_next (q88 (k + 8) hlk hs hN2 hG hf) ?_
  exact evSs_nil'
  simp [forget]
end Tk06
end
section
/-! K06C: the law. -/
namespace Tk06
open Pv Pu
local macro_rules
  | `(tactic| simp! $[$l:location]?) => `(tactic| simp (maxDischargeDepth := 12) [-Option.bind_some, ob_some, Pv.get, Op.keeps, fetchs, fetch, opD, o_tup, o_lst, o_add, o_sub, o_mul, o_fdiv, o_mod, o_pow, o_neg, o_eq, o_ne, o_lt, o_gt, o_le, o_ge, o_in_, o_nin, o_isN, o_isnN, o_sl, o_len, o_abs, o_max, o_min, o_tupleOf, o_listOf, o_intOf, o_isi, o_get, o_get2, bounds, slD, dlook, flatD, keyOk, backs, ioFits, assigns, forget, T.slots, T.slotss, noOwn, frzSlot, sets, argsOf, iosOf, noDup, putBacks, setAt, putIx, subL, slotsG, isElt] $[$l]?)
  | `(tactic| simp! [$as,*] $[$l:location]?) => `(tactic| simp (maxDischargeDepth := 12) [-Option.bind_some, ob_some, Pv.get, Op.keeps, fetchs, fetch, opD, o_tup, o_lst, o_add, o_sub, o_mul, o_fdiv, o_mod, o_pow, o_neg, o_eq, o_ne, o_lt, o_gt, o_le, o_ge, o_in_, o_nin, o_isN, o_isnN, o_sl, o_len, o_abs, o_max, o_min, o_tupleOf, o_listOf, o_intOf, o_isi, o_get, o_get2, bounds, slD, dlook, flatD, keyOk, backs, ioFits, assigns, forget, T.slots, T.slotss, noOwn, frzSlot, sets, argsOf, iosOf, noDup, putBacks, setAt, putIx, subL, slotsG, isElt, $as,*] $[$l]?)

theorem turn_rnd (k : Nat) {ds : List Int} {s0 : Option R} {i : Int} (hi : 0 ≤ i) (n : Int) : ∃ (i' : Int), 0 ≤ i' ∧ rnd (Ko (k + 10)) (.v 2) B_law_89 [2, 3, 4, 5, 6, 7, 8, 9, 10, 11, 12, 13, 14, 15, 16, 17, 18, 19, 20, 21, 22, 23] (.int n) [s0, some (W ds i), none, none, none, none, none, none, none, none, none, none, none, none, none, none, none, none, none, none, none, none, none, none, none, none, none, none] = .next [s0, some (W ds i'), none, none, none, none, none, none, none, none, none, none, none, none, none, none, none, none, none, none, none, none, none, none, none, none, none, none] := by
  obtain ⟨i', σ', h1, h2, h3⟩ := turn k (ds := ds) (s0 := s0) hi (some (.v (.int n)))
  refine ⟨i', h1, ?_⟩
  have e : assign (.v 2) (.v (.int n)) [s0, some (W ds i), none, none, none, none, none, none, none, none, none, none, none, none, none, none, none, none, none, none, none, none, none, none, none, none, none, none] = some [s0, some (W ds i), some (.v (.int n)), none, none, none, none, none, none, none, none, none, none, none, none, none, none, none, none, none, none, none, none, none, none, none, none, none] := by simp!
  rw [rnd_eq, e, toFl_some, flb_next, kBody_eq, h2, kilF_next, h3]
theorem law_ev {C : Ctx} {ns ds : List Int} {i1 i2 i3 : Int} (i11 : C.io 11 = [false, false]) (h11 : C.cf 11 [.v (.lst (ns.map .int)), .v (.int 90)] = .ok (.l (ds.map .int)) [])
    (r1 : rnd C (.v 2) B_law_89 [2, 3, 4, 5, 6, 7, 8, 9, 10, 11, 12, 13, 14, 15, 16, 17, 18, 19, 20, 21, 22, 23] (.int 0) [some (.v (.lst (ns.map .int))), some (W ds 0), none, none, none, none, none, none, none, none, none, none, none, none, none, none, none, none, none, none, none, none, none, none, none, none, none, none] = .next [some (.v (.lst (ns.map .int))), some (W ds i1), none, none, none, none, none, none, none, none, none, none, none, none, none, none, none, none, none, none, none, none, none, none, none, none, none, none])
    (r2 : rnd C (.v 2) B_law_89 [2, 3, 4, 5, 6, 7, 8, 9, 10, 11, 12, 13, 14, 15, 16, 17, 18, 19, 20, 21, 22, 23] (.int 1) [some (.v (.lst (ns.map .int))), some (W ds i1), none, none, none, none, none, none, none, none, none, none, none, none, none, none, none, none, none, none, none, none, none, none, none, none, none, none] = .next [some (.v (.lst (ns.map .int))), some (W ds i2), none, none, none, none, none, none, none, none, none, none, none, none, none, none, none, none, none, none, none, none, none, none, none, none, none, none])
    (r3 : rnd C (.v 2) B_law_89 [2, 3, 4, 5, 6, 7, 8, 9, 10, 11, 12, 13, 14, 15, 16, 17, 18, 19, 20, 21, 22, 23] (.int 2) [some (.v (.lst (ns.map .int))), some (W ds i2), none, none, none, none, none, none, none, none, none, none, none, none, none, none, none, none, none, none, none, none, none, none, none, none, none, none] = .next [some (.v (.lst (ns.map .int))), some (W ds i3), none, none, none, none, none, none, none, none, none, none, none, none, none, none, none, none, none, none, none, none, none, none, none, none, none, none]) :
    evSs C b_law [some (.v (.lst (ns.map .int))), none, none, none, none, none, none, none, none, none, none, none, none, none, none, none, none, none, none, none, none, none, none, none, none, none, none, none] = .ret (.v (.bl true)) [some (.v (.lst (ns.map .int))), some (W ds i3), none, none, none, none, none, none, none, none, none, none, none, none, none, none, none, none, none, none, none, none, none, none, none, none, none, none] := by
  have s1 : evS C S_law_1 [some (.v (.lst (ns.map .int))), none, none, none, none, none, none, none, none, none, none, none, none, none, none, none, none, none, none, none, none, none, none, none, none, none, none, none] = .next [some (.v (.lst (ns.map .int))), some (W ds 0), none, none, none, none, none, none, none, none, none, none, none, none, none, none, none, none, none, none, none, none, none, none, none, none, none, none] := by
    have e : o_dic [.str [100, 114, 97, 119, 115], .lst (ds.map .int), .str [97, 116], .int 0] = some (W ds 0) := by
      simp [o_dic, pairUp, keyOk, mputs, mput, mhas, mlook, D.beq, W]
    simp! [i11, h11, e]
  have s3 : evS C S_law_90 [some (.v (.lst (ns.map .int))), some (W ds 0), none, none, none, none, none, none, none, none, none, none, none, none, none, none, none, none, none, none, none, none, none, none, none, none, none, none] = .next [some (.v (.lst (ns.map .int))), some (W ds i3), none, none, none, none, none, none, none, none, none, none, none, none, none, none, none, none, none, none, none, none, none, none, none, none, none, none] := by
    have e : walk .range [.int 3] = some [.int 0, .int 1, .int 2] := by
      have := walk_rn 3 (by omega)
      exact this
    rw [uS_law_90, evS_forK]
    have e2 : evDs C (.cons (.c (.int 3)) .nil) [some (.v (.lst (ns.map .int))), some (W ds 0), none, none, none, none, none, none, none, none, none, none, none, none, none, none, none, none, none, none, none, none, none, none, none, none, none, none] = .ok [.int 3] [some (.v (.lst (ns.map .int))), some (W ds 0), none, none, none, none, none, none, none, none, none, none, none, none, none, none, none, none, none, none, none, none, none, none, none, none, none, none] := by simp!
    have e3 : forget [2, 3, 4, 5, 6, 7, 8, 9, 10, 11, 12, 13, 14, 15, 16, 17, 18, 19, 20, 21, 22, 23] [some (.v (.lst (ns.map .int))), some (W ds 0), none, none, none, none, none, none, none, none, none, none, none, none, none, none, none, none, none, none, none, none, none, none, none, none, none, none] = [some (.v (.lst (ns.map .int))), some (W ds 0), none, none, none, none, none, none, none, none, none, none, none, none, none, none, none, none, none, none, none, none, none, none, none, none, none, none] := by simp [forget]
    rw [e2, outf_ok, kFor_eq, e, ofO_some, outf_ok, e3, forL_cons, r1]
    simp only
    rw [forL_cons, r2]
    simp only
    rw [forL_cons, r3]
    rfl
  exact evSs_next s1 (evSs_next s3 (evSs_ret (by simp!)))
theorem law_run (ns : List Int) (hl : ns.length ≤ 63) : callF whileW tbl 60 16 [.v (.lst (ns.map .int))] = .ok (.v (.bl true)) [] := by
  obtain ⟨ds, h11, _⟩ := draws_eq (wh := whileW) (tbl := tbl) (f := 11) t11 ns 90 58 hl (by omega)
  obtain ⟨i1, g1, r1⟩ := turn_rnd 49 (ds := ds) (s0 := some (.v (.lst (ns.map .int)))) (i := 0) (by omega) 0
  obtain ⟨i2, g2, r2⟩ := turn_rnd 49 (ds := ds) (s0 := some (.v (.lst (ns.map .int)))) (i := i1) g1 1
  obtain ⟨i3, g3, r3⟩ := turn_rnd 49 (ds := ds) (s0 := some (.v (.lst (ns.map .int)))) (i := i2) g2 2
  have h := law_ev (C := Ko 59) rfl (by rw [Ko_cf]; exact h11) r1 r2 r3
  have := callF_ret (wh := whileW) (tbl := tbl) (k := 59) (f := 16) (np := 1) (ns := 28) (io := [false]) (body := b_law) (rs := [.v (.lst (ns.map .int))]) (bs := []) rfl rfl rfl h rfl
  exact this
end Tk06
end
open PySem PySem.W PyProof.Rows
set_option maxHeartbeats 0 in
theorem PySem.Challenge.cw_costsforetold_k06_whole_places_and_rings_holds : PySem.Challenge.rw_costsforetold_k06_whole_places_and_rings.Holds := by
  w_on; o_law; k_head; (case hw => w_witness2)
  k_fill
  refine L2.walk_of (l := PySem.Challenge.rw_costsforetold_k06_whole_places_and_rings) (n := 63) (k := 60) (x := "script") (CX := fun _ => L2.CX0) (sp := fun w => Pv.spTop _ Tk06.tbl 60 16) rfl (by decide) rfl ⟨rfl, by decide, by decide⟩ (fun w h Y => PySem.W.kIn_of Y) ?F (fun w H a ns hl ho hS => Pv.top_sp ?nl hS ho (Tk06.law_run ns hl)) (fun _ _ _ _ _ h => h)
  case F =>
    intro w mg fa h KX G hmg
    refine' Tk06.all_mk KX G hmg ?a0 ?l0 ?c0 ?k0 ?a1 ?l1 ?c1 ?k1 ?a2 ?l2 ?c2 ?k2 ?a3 ?l3 ?c3 ?k3 ?a4 ?l4 ?c4 ?k4 ?a5 ?l5 ?c5 ?k5 ?a6 ?l6 ?c6 ?k6 ?a7 ?l7 ?c7 ?k7 ?a8 ?l8 ?c8 ?k8 ?a9 ?l9 ?c9 ?k9 ?a10 ?l10 ?c10 ?k10 ?a11 ?l11 ?c11 ?k11 ?a12 ?l12 ?c12 ?k12 ?a13 ?l13 ?c13 ?k13 ?a14 ?l14 ?c14 ?k14 ?a15 ?l15 ?c15 ?k15 ?a16 ?l16 ?c16 ?k16 ?z0 ?z1 ?z2 ?z3 ?z4 ?z5 ?z6 ?z7 ?z8 ?z9 ?z10 ?z11 ?z12 ?z13 ?z14 ?z15 ?z16 ?z17 ?z18
    (case a0 => k_is); (case l0 => k_is); (case c0 => k_is); (case k0 => k_is); (case a1 => k_is); (case l1 => k_is); (case c1 => k_is); (case k1 => k_is); (case a2 => k_is); (case l2 => k_is); (case c2 => k_is); (case k2 => k_is); (case a3 => k_is); (case l3 => k_is); (case c3 => k_is); (case k3 => k_is); (case a4 => k_is); (case l4 => k_is); (case c4 => k_is); (case k4 => k_is); (case a5 => k_is); (case l5 => k_is); (case c5 => k_is); (case k5 => k_is); (case a6 => k_is); (case l6 => k_is); (case c6 => k_is); (case k6 => k_is); (case a7 => k_is); (case l7 => k_is); (case c7 => k_is); (case k7 => k_is); (case a8 => k_is); (case l8 => k_is); (case c8 => k_is); (case k8 => k_is); (case a9 => k_is); (case l9 => k_is); (case c9 => k_is); (case k9 => k_is); (case a10 => k_is); (case l10 => k_is); (case c10 => k_is); (case k10 => k_is); (case a11 => k_is); (case l11 => k_is); (case c11 => k_is); (case k11 => k_is); (case a12 => k_is); (case l12 => k_is); (case c12 => k_is); (case k12 => k_is); (case a13 => k_is); (case l13 => k_is); (case c13 => k_is); (case k13 => k_is); (case a14 => k_is); (case l14 => k_is); (case c14 => k_is); (case k14 => k_is); (case a15 => k_is); (case l15 => k_is); (case c15 => k_is); (case k15 => k_is); (case a16 => k_is); (case l16 => k_is); (case c16 => k_is); (case k16 => k_is); (case z0 => k_is); (case z1 => k_is); (case z2 => k_is); (case z3 => k_is); (case z4 => k_is); (case z5 => k_is); (case z6 => k_is); (case z7 => k_is); (case z8 => k_is); (case z9 => k_is); (case z10 => k_is); (case z11 => k_is); (case z12 => k_is); (case z13 => k_is); (case z14 => k_is); (case z15 => k_is); (case z16 => k_is); (case z17 => k_is); (case z18 => k_is)
  case nl => kernel_rfl
