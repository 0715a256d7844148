import PyProof.Rows.All
import Wide.All
import OpenK.AllK
import Wide.FinOn
import HandS.ForMost
import HandS.Style
import HandS.IsInst
import HandS.Wide
import HandS.Gcd
import HandS.Zip
import HandS.Flow
import HandS.Conv
import HandS.Replace
import HandS.SortInts
import HandS.WideMore
import PySem.Challenge.RW_wordsweighed_k68_bills_in_whole_coins
set_option Elab.async false
set_option linter.all false
set_option maxRecDepth 100000
namespace Ev
open PySem L2
/-- values as trees: a text by its codes, a dict by its keys and values, an object by its class, names, values -/
inductive T where
  | non | bl (b : Bool) | int (i : Int) | str (s : List Nat)
  | tup (xs : List T) | lst (xs : List T)
  | dct (ks vs : List T) | obj (c : Nat) (ns : List (List Nat)) (vs : List T)
/-- whose a tree's lists are: seen in a slot, shared for good, the outer list one's own, all lists one's own -/
inductive Own where
  | view (i : Nat) | cold | shal | full | flds (os : List Own)
mutual
/-- no list within -/
def T.nl : T → Bool
  | .non => true
  | .bl _ => true
  | .int _ => true
  | .str _ => true
  | .tup xs => nlL xs
  | .lst _ => false
  | .dct _ _ => false
  | .obj _ _ _ => false
def nlL : List T → Bool
  | [] => true
  | x :: xs => T.nl x && nlL xs
end
mutual
def T.depLe : Nat → T → Bool
  | _, .non => true
  | _, .bl _ => true
  | _, .int _ => true
  | _, .str _ => true
  | 0, .tup _ => false
  | 0, .lst _ => false
  | n + 1, .tup xs => depLeL n xs
  | n + 1, .lst xs => depLeL n xs
  | _, .dct _ _ => false
  | _, .obj _ _ _ => false
def depLeL : Nat → List T → Bool
  | _, [] => true
  | n, x :: xs => T.depLe n x && depLeL n xs
end
mutual
/-- Python's == of data -/
def eqT : T → T → Bool
  | .non, .non => true
  | .bl a, .bl b => a == b
  | .bl a, .int b => (if a then 1 else 0) == b
  | .int a, .bl b => a == (if b then 1 else 0)
  | .int a, .int b => a == b
  | .str a, .str b => a == b
  | .tup a, .tup b => eqTL a b
  | .lst a, .lst b => eqTL a b
  | _, _ => false
def eqTL : List T → List T → Bool
  | [], [] => true
  | x :: xs, y :: ys => eqT x y && eqTL xs ys
  | _, _ => false
end
abbrev Slot := Option (T × Own)
abbrev Env := List Slot
structure R where
  t : T
  o : Own
  ρ : Env
/-- operators -/
inductive BO | add | sub | mul | fdiv | mod | pow
inductive CO | eq | ne | lt | le | gt | ge | is | isn | mem | nmem
/-- built-in functions -/
inductive BF | len | abs | int | bool | str | list | tuple | sum | any | all | gcd | max2 | min2 | max | min | sorted | ord | chr
/-- methods of texts and lists -/
inductive MF | sindex | join | split1 | lindex | scount | startswith | endswith
/-- classes for isinstance -/
inductive CT | int | bool | str | list | tuple
inductive Tg | nm (i : Nat) | tp (ts : List Tg)
inductive E where
  | int (i : Int) | bl (b : Bool) | non | str (s : List Nat)
  | var (i : Nat) | mov (i : Nat)
  | glob (x : List Nat)
  | bin (op : BO) (a b : E)
  | neg (a : E)
  | notv (a : E)
  | cmp (op : CO) (a b : E)
  | chain (op op' : CO) (a b c : E)
  | andv (es : List E) | orv (es : List E)
  | ife (c a b : E)
  | tup (es : List E) | lst (es : List E)
  | ix (a i : E)
  | sl (a : E) (lo hi : List E)
  | rev (a : E)
  | call (f : List Nat) (es : List E)
  | blt (f : BF) (es : List E)
  | isi (a : E) (c : CT)
  | meth (f : MF) (o : E) (es : List E)
  | lc (elt : E) (tg : Tg) (it : E) (ifs : List E) (own : List Nat)
  | lc2 (elt : E) (tg : Tg) (it : E) (ifs : List E) (tg1 : Tg) (it1 : E) (ifs1 : List E) (own vs1 : List Nat)
  -- what is walked
  | rng (es : List E) | zip (a b : E) | enum (a : E) | revd (a : E)
inductive S where
  | set (i : Nat) (e : E)
  | setc (i : Nat) (elt : E) (tg : Tg) (it : E) (ifs : List E) (own : List Nat)
  | asg (tg : Tg) (e : E)
  | par (i j : Nat) (a b : E)
  | aug (i : Nat) (op : BO) (e : E)
  | app (i : Nat) (ixs : List E) (e : E)
  | seti (i : Nat) (ixs : List E) (k : E) (e : E)
  | exp (e : E)
  | ret (e : E) | retN
  | ite (c : E) (a b : List S)
  | whl (c : E) (b : List S)
  | for_ (tg : Tg) (it : E) (b : List S)
  | pass | brk | cnt
def truth : T → Option Bool
  | .non => some false
  | .bl b => some b
  | .int i => some (i != 0)
  | .str s => some (!s.isEmpty)
  | .tup xs => some (!xs.isEmpty)
  | .lst xs => some (!xs.isEmpty)
  | .dct ks _ => some (!ks.isEmpty)
  | .obj _ _ _ => none
def binV : BO → T → T → Option T
  | .add, .int i, .int j => some (.int (i + j))
  | .add, .str x, .str y => if x.length + y.length ≤ sizeLine then some (.str (x ++ y)) else none
  | .add, .lst x, .lst y => if x.length + y.length ≤ sizeLine then some (.lst (x ++ y)) else none
  | .add, .tup x, .tup y => if x.length + y.length ≤ sizeLine ∧ x ≠ [] ∧ y ≠ [] then some (.tup (x ++ y)) else none
  | .sub, .int i, .int j => some (.int (i - j))
  | .mul, .int i, .int j => if i.natAbs.log2 + j.natAbs.log2 < 1000000 ∨ i.natAbs < 2 ^ 64 ∨ j.natAbs < 2 ^ 64 then some (.int (i * j)) else none
  | .mul, .lst x, .int k => if k.natAbs < 2 ^ 63 ∧ x.length * k.toNat ≤ sizeLine then some (.lst (List.replicate k.toNat x).flatten) else none
  | .fdiv, .int i, .int j => if 0 < j ∧ j.natAbs.log2 < 9000 then some (.int (i / j)) else if j < 0 ∧ j.natAbs < 1073741824 then some (.int (i.fdiv j)) else none
  | .mod, .int i, .int j => if 0 < j then some (.int (i % j)) else if j < 0 then some (.int (i.fmod j)) else none
  | .pow, .int i, .int j => if 0 ≤ j ∧ j ≤ 1000000 ∧ i.natAbs < 2 ^ 64 then some (.int (i ^ j.toNat)) else none
  | _, _, _ => none
/-- op= (numbers and texts alone: a list would be changed where it lies) -/
def augV : BO → T → T → Option T
  | .add, .int i, .int j => some (.int (i + j))
  | .add, .str x, .str y => if x.length + y.length ≤ sizeLine then some (.str (x ++ y)) else none
  | .sub, .int i, .int j => some (.int (i - j))
  | .mul, .int i, .int j => if i.natAbs < 2 ^ 64 ∨ j.natAbs < 2 ^ 64 then some (.int (i * j)) else none
  | .fdiv, .int i, .int j => if 0 < j ∧ j.natAbs.log2 < 9000 then some (.int (i / j)) else none
  | .mod, .int i, .int j => if 0 < j then some (.int (i % j)) else none
  | _, _, _ => none
def lexN (x y : List Nat) : Bool := decide (x < y)
def flatT : T → Bool
  | .non => true
  | .bl _ => true
  | .int _ => true
  | .str _ => true
  | _ => false
def memT (x : T) (xs : List T) : Bool := xs.any fun y => eqT y x
def isNon : T → Bool
  | .non => true
  | _ => false
def memV (x : T) : T → Option Bool
  | .lst ys => if flatT x && ys.all flatT then some (memT x ys) else none
  | .tup ys => if flatT x && ys.all flatT then some (memT x ys) else none
  | .str ys => match x with
    | .str [c] => some (ys.contains c)
    | _ => none
  | _ => none
def cmpV : CO → T → T → Option Bool
  | .eq, a, b => if T.depLe 64 a && T.depLe 64 b then some (eqT a b) else none
  | .ne, a, b => if T.depLe 64 a && T.depLe 64 b then some (!eqT a b) else none
  | .lt, .int i, .int j => some (decide (i < j))
  | .le, .int i, .int j => some (decide (i ≤ j))
  | .gt, .int i, .int j => some (decide (j < i))
  | .ge, .int i, .int j => some (decide (j ≤ i))
  | .lt, .str i, .str j => some (lexN i j)
  | .is, a, .non => some (isNon a)
  | .isn, a, .non => some (!isNon a)
  | .mem, a, b => memV a b
  | .nmem, a, b => (memV a b).map (!·)
  | _, _, _ => none
def cutT (xs : List α) (lo hi : Option Int) : List α := (xs.drop (HT.sIx xs.length 0 lo)).take (HT.sIx xs.length xs.length hi - HT.sIx xs.length 0 lo)
def slV (lo hi : Option Int) : T → Option T
  | .lst xs => some (.lst (cutT xs lo hi))
  | .str s => some (.str (cutT s lo hi))
  | .tup xs => if (cutT xs lo hi).length = xs.length then none else some (.tup (cutT xs lo hi))
  | _ => none
def ixV : T → T → Option T
  | .lst xs, .int i => atI xs i
  | .tup xs, .int i => atI xs i
  | .str s, .int i => (atI s i).map fun c => .str [c]
  | _, _ => none
def revV : T → Option T
  | .lst xs => some (.lst xs.reverse)
  | _ => none
def intsV : List T → Option (List Int)
  | [] => some []
  | .int i :: r => (intsV r).map (i :: ·)
  | _ :: _ => none
def blsV : List T → Option (List Bool)
  | [] => some []
  | .bl i :: r => (blsV r).map (i :: ·)
  | _ :: _ => none
def strsV : List T → Option (List (List Nat))
  | [] => some []
  | .str i :: r => (strsV r).map (i :: ·)
  | _ :: _ => none
def maxL : List Int → Int
  | [] => 0
  | [x] => x
  | x :: r => if maxL r < x then x else maxL r
def minL : List Int → Int
  | [] => 0
  | [x] => x
  | x :: r => if x < minL r then x else minL r
def bltV : BF → List T → Option T
  | .len, [.lst xs] => some (.int xs.length)
  | .len, [.tup xs] => some (.int xs.length)
  | .len, [.str s] => some (.int s.length)
  | .abs, [.int i] => some (.int (if i < 0 then -i else i))
  | .int, [.int i] => some (.int i)
  | .int, [.bl b] => some (.int (if b then 1 else 0))
  | .bool, [.int i] => some (.bl (i != 0))
  | .bool, [.bl b] => some (.bl b)
  | .list, [.lst xs] => some (.lst xs)
  | .list, [.tup xs] => some (.lst xs)
  | .tuple, [.lst xs] => some (.tup xs)
  | .sum, [.lst xs] => (intsV xs).map fun ns => .int ns.sum
  | .any, [.lst xs] => (blsV xs).map fun bs => .bl (bs.any id)
  | .all, [.lst xs] => (blsV xs).map fun bs => .bl (bs.all id)
  | .gcd, [.int a, .int b] => some (.int ((Nat.gcd a.natAbs b.natAbs : Nat) : Int))
  | .max2, [.int i, .int j] => some (.int (if j > i then j else i))
  | .min2, [.int i, .int j] => some (.int (if j < i then j else i))
  | .max, [.lst xs] => (intsV xs).bind fun ns => if ns.length = 0 then none else some (.int (maxL ns))
  | .min, [.lst xs] => (intsV xs).bind fun ns => if ns.length = 0 then none else some (.int (minL ns))
  | .ord, [.str [c]] => some (.int c)
  | _, _ => none
def isiV : CT → T → Bool
  | .int, .int _ => true
  | .int, .bl _ => true
  | .bool, .bl _ => true
  | .str, .str _ => true
  | .list, .lst _ => true
  | .tuple, .tup _ => true
  | _, _ => false
def methV : MF → T → List T → Option T
  | .lindex, .lst xs, [y] => if flatT y && xs.all flatT then (xs.findIdx? fun z => eqT z y).map fun j => .int (j : Nat) else none
  | .sindex, .str s, [.str [c]] => (s.findIdx? (· == c)).map fun j => .int (j : Nat)
  | _, _, _ => none
/-- the items that are walked -/
def itemsV : T → Option (List T)
  | .lst xs => some xs
  | .tup xs => some xs
  | .str s => some (s.map fun c => .str [c])
  | _ => none
def rngV : List T → Option (List T)
  | [.int j] => if j.natAbs < 2 ^ 62 then some ((List.range j.toNat).map fun i => .int (i : Nat)) else none
  | [.int i, .int j] => if i.natAbs < 2 ^ 62 ∧ j.natAbs < 2 ^ 62 then some ((List.range (j - i).toNat).map fun k => .int (i + (k : Nat))) else none
  | [.int i, .int j, .int (-1)] => if i.natAbs < 2 ^ 62 ∧ j.natAbs < 2 ^ 62 then some ((List.range (i - j).toNat).map fun k => .int (i - (k : Nat))) else none
  | _ => none
/-- as a value to be kept -/
def val (r : R) : Option R := match r.o with
  | .view i => match r.ρ[i]? with
    | some (some (t, _)) => some ⟨t, .cold, r.ρ.set i (some (t, .cold))⟩
    | _ => none
  | _ => some r
def mk (t : T) (o : Own) (ρ : Env) : R := if t.nl then ⟨t, .full, ρ⟩ else ⟨t, o, ρ⟩
def Own.isFull : Own → Bool
  | .full => true
  | _ => false
/-- a new list of such items -/
def minO (a b : Own) : Own := if a.isFull && b.isFull then .full else .shal
def kidO (o : Own) : Own := match o with
  | .full => .full
  | _ => .cold
/- store into a target -/
mutual
def bindT : Tg → T → Own → Env → Option Env
  | .nm i, t, o, ρ => if i < ρ.length then some (ρ.set i (some (t, if t.nl then .full else o))) else none
  | .tp ts, .tup xs, o, ρ => bindTs ts xs (kidO o) ρ
  | .tp _, _, _, _ => none
def bindTs : List Tg → List T → Own → Env → Option Env
  | [], [], _, ρ => some ρ
  | g :: gs, x :: xs, o, ρ => (bindT g x o ρ).bind fun ρ' => bindTs gs xs o ρ'
  | _, _, _, _ => none
end
def wipeE : List Nat → Env → Env
  | [], ρ => ρ
  | i :: is, ρ => (wipeE is ρ).set i none
/-- the slots of a comprehension's own names, as they stood ahead of it (numbers, texts, tuples of them) -/
def backE (ρ₀ : Env) : List Nat → Env → Env
  | [], ρ => ρ
  | i :: is, ρ => backE ρ₀ is (match ρ₀[i]? with
    | some (some (t, .full)) => if t.nl then ρ.set i (some (t, .full)) else ρ.set i none
    | _ => ρ.set i none)
/-- a comprehension's turns -/
def lcLoop (own : List Nat) (bind : T → Env → Option Env) (tests : Env → Option (Bool × Env)) (elt : Env → Option R) : List T → List T → Own → Env → Option (List T × Own × Env)
  | [], acc, o, ρ => some (acc, o, wipeE own ρ)
  | x :: xs, acc, o, ρ => (bind x (wipeE own ρ)).bind fun ρ1 => (tests ρ1).bind fun bρ =>
    if bρ.1 then (elt bρ.2).bind fun r => if acc.length < sizeLine then lcLoop own bind tests elt xs (acc ++ [r.t]) (minO o r.o) r.ρ else none
    else lcLoop own bind tests elt xs acc o bρ.2
/-- a tree that was seen in a slot, as it stands there now; its lists are shared from now on -/
def reT (t : T) (o : Own) (ρ : Env) : Option (T × Env) := match o with
  | .view i => match ρ[i]? with
    | some (some (t', _)) => some (t', ρ.set i (some (t', .cold)))
    | _ => none
  | _ => some (t, ρ)
/-- behind an operation g whose answer may share the items of what it was made of -/
def shareR1 (g : T → Option T) (t : T) (o : Own) (ρ : Env) : Option R :=
  (g t).bind fun y => if y.nl then some ⟨y, .full, ρ⟩ else match y with
    | .lst ys => if nlL ys then some ⟨y, .full, ρ⟩ else (reT t o ρ).bind fun x => (g x.1).bind fun z => match z with
      | .lst zs => some ⟨.lst zs, .shal, x.2⟩
      | _ => none
    | _ => (reT t o ρ).bind fun x => (g x.1).bind fun z => match z with
      | .tup zs => some ⟨.tup zs, .cold, x.2⟩
      | _ => none
def shareR2 (g : T → T → Option T) (t : T) (o : Own) (u : T) (q : Own) (ρ : Env) : Option R :=
  (g t u).bind fun y => if y.nl then some ⟨y, .full, ρ⟩ else match y with
    | .lst ys => if nlL ys then some ⟨y, .full, ρ⟩ else (reT t o ρ).bind fun x => (reT u q x.2).bind fun x' => (g x.1 x'.1).bind fun z => match z with
      | .lst zs => some ⟨.lst zs, .shal, x'.2⟩
      | _ => none
    | _ => (reT t o ρ).bind fun x => (reT u q x.2).bind fun x' => (g x.1 x'.1).bind fun z => match z with
      | .tup zs => some ⟨.tup zs, .cold, x'.2⟩
      | _ => none
/-- a list is repeated only where it is one's own -/
def repOk : BO → T → Own → Bool
  | .mul, .lst xs, .full => nlL xs
  | .mul, .lst xs, .shal => nlL xs
  | .mul, .lst _, _ => false
  | _, _, _ => true
/-- an item of something -/
def pickR (g : T → Option T) (t : T) (o : Own) (ρ : Env) : Option R :=
  (g t).bind fun y => if y.nl then some ⟨y, .full, ρ⟩ else (reT t o ρ).bind fun x => (g x.1).map fun z => ⟨z, .cold, x.2⟩
def reL : List T → List Own → Env → Option (List T × Env)
  | [], [], ρ => some ([], ρ)
  | t :: ts, o :: os, ρ => (reT t o ρ).bind fun x => (reL ts os x.2).map fun y => (x.1 :: y.1, y.2)
  | _, _, _ => none
/-- a built-in's answer -/
def shareB (g : List T → Option T) (ts : List T) (os : List Own) (ρ : Env) : Option R := match ts, os with
  | [t], [o] => shareR1 (fun x => g [x]) t o ρ
  | _, _ => (g ts).bind fun y => if y.nl then some ⟨y, .full, ρ⟩ else none
/-- what an expression means: its value, its truth, what is walked -/
structure Den where
  c : Bool
  v : Env → Option R
  t : Env → Option (Bool × Env)
  i : Env → Option (List T × Env)
def tOf (v : Env → Option R) (ρ : Env) : Option (Bool × Env) := (v ρ).bind fun r => (truth r.t).map fun k => (k, r.ρ)
def iOf (v : Env → Option R) (ρ : Env) : Option (List T × Env) := (v ρ).bind fun ra => (reT ra.t ra.o ra.ρ).bind fun x => (itemsV x.1).map fun xs => (xs, x.2)
def valD (c : Bool) (v : Env → Option R) : Den := ⟨c, v, tOf v, iOf v⟩
def tstD (c : Bool) (v : Env → Option R) (t : Env → Option (Bool × Env)) : Den := ⟨c, v, t, iOf v⟩
def itD (c : Bool) (i : Env → Option (List T × Env)) : Den := ⟨c, fun _ => none, fun _ => none, i⟩
/-- whether a comprehension stands in one of them -/
def anyC : List Den → Bool
  | [] => false
  | d :: ds => d.c || anyC ds
/-- where a comprehension comes, what was seen is shared first -/
def vo (c : Bool) (r : R) : Option R := if c then val r else some r
/-- values to be kept, from the left; whether all are one's own -/
def evL : List Den → Env → Option (List T × Own × Env)
  | [], ρ => some ([], .full, ρ)
  | e :: es, ρ => (e.v ρ).bind fun r0 => (val r0).bind fun r => (evL es r.ρ).map fun x => (r.t :: x.1, minO r.o x.2.1, x.2.2)
/-- values that are only seen, from the left -/
def evV : List Den → Env → Option (List T × List Own × Env)
  | [], ρ => some ([], [], ρ)
  | e :: es, ρ => (e.v ρ).bind fun r0 => (vo (anyC es) r0).bind fun r => (evV es r.ρ).map fun x => (r.t :: x.1, r.o :: x.2.1, x.2.2)
def evTs : List Den → Env → Option (Bool × Env)
  | [], ρ => some (true, ρ)
  | [c], ρ => c.t ρ
  | _, _ => none
def andVals : List Den → Env → Option R
  | [], _ => none
  | [d], ρ => d.v ρ
  | d :: ds, ρ => (d.v ρ).bind fun r => match r.t with
    | .bl true => andVals ds r.ρ
    | .bl false => some ⟨.bl false, .full, r.ρ⟩
    | _ => none
def orVals : List Den → Env → Option R
  | [], _ => none
  | [d], ρ => d.v ρ
  | d :: ds, ρ => (d.v ρ).bind fun r => match r.t with
    | .bl false => orVals ds r.ρ
    | .bl true => some ⟨.bl true, .full, r.ρ⟩
    | _ => none
def andTs : List Den → Env → Option (Bool × Env)
  | [], _ => none
  | [d], ρ => d.t ρ
  | d :: ds, ρ => (d.t ρ).bind fun k => if k.1 then andTs ds k.2 else some (false, k.2)
def orTs : List Den → Env → Option (Bool × Env)
  | [], _ => none
  | [d], ρ => d.t ρ
  | d :: ds, ρ => (d.t ρ).bind fun k => if k.1 then some (true, k.2) else orTs ds k.2
/-- an end of a slice -/
def evO : List Den → Env → Option (Option Int × Env)
  | [], ρ => some (none, ρ)
  | [d], ρ => (d.v ρ).bind fun r => match r.t with
    | .int i => some (some i, r.ρ)
    | _ => none
  | _, _ => none
section
variable (G : List Nat → Option T) (C : List Nat → List T → Option (T × Own))
mutual
def den : E → Den
  | .int i => valD false fun ρ => some ⟨.int i, .full, ρ⟩
  | .bl b => valD false fun ρ => some ⟨.bl b, .full, ρ⟩
  | .non => valD false fun ρ => some ⟨.non, .full, ρ⟩
  | .str s => valD false fun ρ => some ⟨.str s, .full, ρ⟩
  | .var i => valD false fun ρ => match ρ[i]? with
    | some (some (t, _)) => some (if t.nl then ⟨t, .full, ρ⟩ else ⟨t, .view i, ρ⟩)
    | _ => none
  | .mov i => valD false fun ρ => match ρ[i]? with
    | some (some (t, o)) => some (if t.nl then ⟨t, .full, ρ⟩ else ⟨t, o, ρ.set i none⟩)
    | _ => none
  | .glob x => valD false fun ρ => (G x).map fun t => mk t .cold ρ
  | .bin op a b => valD ((den a).c || (den b).c) fun ρ => ((den a).v ρ).bind fun r0 => (vo (den b).c r0).bind fun ra => ((den b).v ra.ρ).bind fun rb => if repOk op ra.t ra.o then shareR2 (binV op) ra.t ra.o rb.t rb.o rb.ρ else none
  | .neg a => valD (den a).c fun ρ => ((den a).v ρ).bind fun ra => match ra.t with
    | .int i => some ⟨.int (-i), .full, ra.ρ⟩
    | _ => none
  | .notv a => tstD (den a).c (fun ρ => ((den a).v ρ).bind fun r => (truth r.t).map fun b => ⟨.bl (!b), .full, r.ρ⟩) (fun ρ => ((den a).t ρ).map fun k => (!k.1, k.2))
  | .cmp op a b => valD ((den a).c || (den b).c) fun ρ => ((den a).v ρ).bind fun r0 => (vo (den b).c r0).bind fun ra => ((den b).v ra.ρ).bind fun rb => (cmpV op ra.t rb.t).map fun k => ⟨.bl k, .full, rb.ρ⟩
  | .chain op op' a b c => valD ((den a).c || ((den b).c || (den c).c)) fun ρ => ((den a).v ρ).bind fun r0 => (vo ((den b).c || (den c).c) r0).bind fun ra => ((den b).v ra.ρ).bind fun r1 => (vo (den c).c r1).bind fun rb => (cmpV op ra.t rb.t).bind fun k =>
    if k then ((den c).v rb.ρ).bind fun rc => (cmpV op' rb.t rc.t).map fun k' => ⟨.bl k', .full, rc.ρ⟩ else some ⟨.bl false, .full, rb.ρ⟩
  | .andv es => tstD (anyC (denL es)) (andVals (denL es)) (andTs (denL es))
  | .orv es => tstD (anyC (denL es)) (orVals (denL es)) (orTs (denL es))
  | .ife c a b => tstD ((den c).c || ((den a).c || (den b).c)) (fun ρ => ((den c).t ρ).bind fun k => if k.1 then ((den a).v k.2).bind val else ((den b).v k.2).bind val) (fun _ => none)
  | .tup es => valD (anyC (denL es)) fun ρ => (evL (denL es) ρ).bind fun x => if x.1.length ≤ sizeLine then some (mk (.tup x.1) (kidO x.2.1) x.2.2) else none
  | .lst es => valD (anyC (denL es)) fun ρ => (evL (denL es) ρ).bind fun x => if x.1.length ≤ sizeLine then some ⟨.lst x.1, x.2.1, x.2.2⟩ else none
  | .ix a i => valD ((den a).c || (den i).c) fun ρ => ((den a).v ρ).bind fun r0 => (vo (den i).c r0).bind fun ra => ((den i).v ra.ρ).bind fun ri => pickR (fun x => ixV x ri.t) ra.t ra.o ri.ρ
  | .sl a lo hi => valD ((den a).c || (anyC (denL lo) || anyC (denL hi))) fun ρ => ((den a).v ρ).bind fun r0 => (vo (anyC (denL lo) || anyC (denL hi)) r0).bind fun ra => (evO (denL lo) ra.ρ).bind fun rl => (evO (denL hi) rl.2).bind fun rh => shareR1 (slV rl.1 rh.1) ra.t ra.o rh.2
  | .rev a => valD (den a).c fun ρ => ((den a).v ρ).bind fun ra => shareR1 revV ra.t ra.o ra.ρ
  | .call f es => valD (anyC (denL es)) fun ρ => (evV (denL es) ρ).bind fun x => (reL x.1 x.2.1 x.2.2).bind fun z => (C f z.1).map fun y => if y.2.isFull then ⟨y.1, .full, x.2.2⟩ else ⟨y.1, y.2, z.2⟩
  | .blt f es => valD (anyC (denL es)) fun ρ => (evV (denL es) ρ).bind fun x => shareB (bltV f) x.1 x.2.1 x.2.2
  | .isi a c => valD (den a).c fun ρ => ((den a).v ρ).map fun ra => ⟨.bl (isiV c ra.t), .full, ra.ρ⟩
  | .meth f a es => valD ((den a).c || anyC (denL es)) fun ρ => ((den a).v ρ).bind fun r0 => (vo (anyC (denL es)) r0).bind fun ra => (evV (denL es) ra.ρ).bind fun x => (methV f ra.t x.1).bind fun t => if t.nl then some ⟨t, .full, x.2.2⟩ else none
  | .lc elt tg it ifs own => valD true fun ρ => ((den it).i ρ).bind fun x =>
    (lcLoop own (fun x ρ => bindT tg x .cold ρ) (fun ρ => evTs (denL ifs) ρ) (fun ρ => ((den elt).v ρ).bind val) x.1 [] .full x.2).map fun y => ⟨.lst y.1, y.2.1, backE x.2 own y.2.2⟩
  | .lc2 _ _ _ _ _ _ _ _ _ => valD true fun _ => none
  | .rng es => itD (anyC (denL es)) fun ρ => (evV (denL es) ρ).bind fun x => (rngV x.1).map fun xs => (xs, x.2.2)
  | .zip a b => itD ((den a).c || (den b).c) fun ρ => ((den a).v ρ).bind fun r0 => (vo (den b).c r0).bind fun ra => ((den b).v ra.ρ).bind fun rb => (reT ra.t ra.o rb.ρ).bind fun x => (reT rb.t rb.o x.2).bind fun y => match x.1, y.1 with
    | .lst xs, .lst ys => some ((xs.zip ys).map fun p => .tup [p.1, p.2], y.2)
    | _, _ => none
  | .enum a => itD (den a).c fun ρ => ((den a).v ρ).bind fun ra => (reT ra.t ra.o ra.ρ).bind fun x => match x.1 with
    | .lst xs => some (xs.zipIdx.map fun p => .tup [.int (p.2 : Nat), p.1], x.2)
    | _ => none
  | .revd a => itD (den a).c fun ρ => ((den a).v ρ).bind fun ra => (reT ra.t ra.o ra.ρ).bind fun x => match x.1 with
    | .lst xs => some (xs.reverse, x.2)
    | _ => none
def denL : List E → List Den
  | [] => []
  | e :: es => den e :: denL es
end
end
inductive Fl where
  | nx (ρ : Env) | rt (t : T) (o : Own) | bk (ρ : Env) | ct (ρ : Env)
/-- behind a turn -/
def Fl.turn (f : Fl) (k : Env → Option Fl) : Option Fl := match f with
  | .nx ρ => k ρ
  | .ct ρ => k ρ
  | .bk ρ => some (.nx ρ)
  | .rt t o => some (.rt t o)
def Fl.seq (f : Fl) (k : Env → Option Fl) : Option Fl := match f with
  | .nx ρ => k ρ
  | f => some f
def forLoop (bind : T → Env → Option Env) (body : Env → Option Fl) : List T → Env → Option Fl
  | [], ρ => some (.nx ρ)
  | x :: xs, ρ => (bind x ρ).bind fun ρ1 => (body ρ1).bind fun f => f.turn (forLoop bind body xs)
def whlLoop (test : Env → Option (Bool × Env)) (body : Env → Option Fl) : Nat → Env → Option Fl
  | 0, _ => none
  | n + 1, ρ => (test ρ).bind fun k => if k.1 then (body k.2).bind fun f => f.turn (whlLoop test body n) else some (.nx k.2)
/-- the turns that a while may take -/
def whlMost : Nat := 1000000000
/-- a place within a tree -/
def modAt (f : T → Option T) : List Int → T → Option T
  | [], t => f t
  | k :: ks, .lst xs => (ixN xs.length k).bind fun j => (xs[j]?).bind fun x => (modAt f ks x).map fun y => .lst (xs.set j y)
  | k :: ks, .tup xs => (ixN xs.length k).bind fun j => (xs[j]?).bind fun x => (modAt f ks x).map fun y => .tup (xs.set j y)
  | _, _ => none
def appV (y : T) : T → Option T
  | .lst xs => if xs.length < sizeLine then some (.lst (xs ++ [y])) else none
  | _ => none
def setV (k : Int) (y : T) : T → Option T
  | .lst xs => (ixN xs.length k).map fun j => .lst (xs.set j y)
  | _ => none
/-- whose a changed tree is: (deep: below the slot's own list) -/
def modO (deep : Bool) (t : T) (o oy : Own) : Option Own :=
  match o with
  | .full => if oy.isFull then some .full else if deep then none else match t with
    | .lst _ => some .shal
    | _ => none
  | .shal => if deep then none else some .shal
  | _ => none
def modS (i : Nat) (ks : List Int) (f : T → Option T) (oy : Own) (ρ : Env) : Option Env := match ρ[i]? with
  | some (some (t, o)) => (modAt f ks t).bind fun t' => (modO (!ks.isEmpty) t o oy).map fun o' => ρ.set i (some (t', o'))
  | _ => none
def evIs : List Den → Env → Option (List Int × Env)
  | [], ρ => some ([], ρ)
  | e :: es, ρ => (e.v ρ).bind fun r => match r.t with
    | .int k => (evIs es r.ρ).map fun x => (k :: x.1, x.2)
    | _ => none
section
variable (G : List Nat → Option T) (C : List Nat → List T → Option (T × Own))
mutual
def exS : S → Env → Option Fl
  | .set i e, ρ => ((den G C e).v ρ).bind fun r0 => (val r0).bind fun r => (bindT (.nm i) r.t r.o r.ρ).map .nx
  | .setc i elt tg it ifs own, ρ => ((den G C (.lc elt tg it ifs own)).v ρ).bind fun r => (bindT (.nm i) r.t r.o r.ρ).map .nx
  | .asg tg e, ρ => ((den G C e).v ρ).bind fun r0 => (val r0).bind fun r => (bindT tg r.t r.o r.ρ).map .nx
  | .par i j a b, ρ => ((den G C a).v ρ).bind fun a0 => (val a0).bind fun ra => ((den G C b).v ra.ρ).bind fun b0 => (val b0).bind fun rb =>
    (bindT (.nm i) ra.t ra.o rb.ρ).bind fun ρ' => (bindT (.nm j) rb.t rb.o ρ').map .nx
  | .aug i op e, ρ => match ρ[i]? with
    | some (some (t, _)) => ((den G C e).v ρ).bind fun r => (augV op t r.t).bind fun t' => (bindT (.nm i) t' .full r.ρ).map .nx
    | _ => none
  | .app i ixs e, ρ => match ρ[i]? with
    | some (some (.lst _, _)) => (evIs (denL G C ixs) ρ).bind fun ks => ((den G C e).v ks.2).bind fun r0 => (val r0).bind fun r => (modS i ks.1 (appV r.t) r.o r.ρ).map .nx
    | _ => none
  | .seti i ixs k e, ρ => ((den G C e).v ρ).bind fun r0 => (val r0).bind fun r => match r.ρ[i]? with
    | some (some _) => (evIs (denL G C ixs) r.ρ).bind fun ks => ((den G C k).v ks.2).bind fun rk => match rk.t with
      | .int k => (modS i ks.1 (setV k r.t) r.o rk.ρ).map .nx
      | _ => none
    | _ => none
  | .exp e, ρ => ((den G C e).v ρ).map fun r => .nx r.ρ
  | .ret e, ρ => ((den G C e).v ρ).bind fun r0 => (val r0).map fun r => .rt r.t r.o
  | .retN, _ => some (.rt .non .full)
  | .ite c a b, ρ => ((den G C c).t ρ).bind fun k => if k.1 then exSs a k.2 else exSs b k.2
  | .whl c b, ρ => whlLoop (den G C c).t (exSs b) whlMost ρ
  | .for_ tg it b, ρ => ((den G C it).i ρ).bind fun x => forLoop (fun x ρ => bindT tg x .cold ρ) (exSs b) x.1 x.2
  | .pass, ρ => some (.nx ρ)
  | .brk, ρ => some (.bk ρ)
  | .cnt, ρ => some (.ct ρ)
def exSs : List S → Env → Option Fl
  | [], ρ => some (.nx ρ)
  | s :: ss, ρ => (exS s ρ).bind fun f => f.seq (exSs ss)
end
end
/-- a def: its parameters, its slots, its body -/
structure Fn where
  np : Nat
  ns : Nat
  body : List S
/-- arguments in their slots -/
def startE (n : Nat) (ts : List T) : Env := (ts.map fun t => some (t, if t.nl then .full else .cold)) ++ List.replicate (n - ts.length) none
def callN (G : List Nat → Option T) (F : List Nat → Option Fn) : Nat → List Nat → List T → Option (T × Own)
  | 0, _, _ => none
  | n + 1, f, ts => (F f).bind fun d => if ts.length = d.np then (exSs G (callN G F n) d.body (startE d.ns ts)).bind fun
    | .nx _ => some (.non, .full)
    | .rt t o => some (t, o)
    | _ => none
    else none
end Ev
namespace Ev
open PySem PySem.Spec PyProof.Rows L2
def kidR : Own → Own
  | .full => .full
  | .view i => .view i
  | _ => .cold
def Own.isView : Own → Bool
  | .view _ => true
  | _ => false
def Ascii (s : List Nat) : Prop := s.length ≤ sizeLine ∧ ∀ c ∈ s, c < 128
/-- a list at a under a claim, with the address that is one's own -/
def LstAt (_K : PySem.W.Frag) (F H : Hp) : Own → Addr → List V → List Addr → Prop
  | .view _, a, vs, hd => Rd H a (.lst vs) ∧ hd = []
  | .cold, a, vs, hd => Rd F a (.lst vs) ∧ hd = []
  | .shal, a, vs, hd => H a = some (.lst vs) ∧ F a = none ∧ hd = [a]
  | .full, a, vs, hd => H a = some (.lst vs) ∧ F a = none ∧ hd = [a]
  | .flds _, _, _, _ => False
section
variable (K : PySem.W.Frag) (F H : Hp)
mutual
/-- the value v stands for the tree t, under the claim o, with one's own addresses fp -/
def Rp : Own → T → V → List Addr → Prop
  | _, .non, v, fp => v = .non ∧ fp = []
  | _, .bl b, v, fp => v = .bl b ∧ fp = []
  | _, .int i, v, fp => v = .int i ∧ fp = []
  | _, .str s, v, fp => v = .str ⟨s.toArray⟩ ∧ fp = [] ∧ Ascii s
  | o, .tup xs, v, fp => ∃ a vs, v = .ref a ∧ SqT K H a vs ∧ RpL (kidR o) xs vs fp
  | o, .lst xs, v, fp => ∃ a vs hd fp', v = .ref a ∧ LstAt K F H o a vs hd ∧ RpL (kidR o) xs vs fp' ∧ fp = hd ++ fp'
  | _, .dct _ _, _, _ => False
  | _, .obj _ _ _, _, _ => False
def RpL : Own → List T → List V → List Addr → Prop
  | _, [], [], fp => fp = []
  | o, x :: xs, v :: vs, fp => ∃ f1 f2, Rp o x v f1 ∧ RpL o xs vs f2 ∧ fp = f1 ++ f2
  | _, _, _, _ => False
end
end
section
variable {K : PySem.W.Frag} {F H F' H' : Hp}
theorem kidR_kidR (o : Own) : kidR (kidR o) = kidR o := by cases o <;> rfl
theorem RpL.len : ∀ {o : Own} {xs : List T} {vs : List V} {fp : List Addr}, RpL K F H o xs vs fp → xs.length = vs.length
  | _, [], [], _, _ => rfl
  | _, _ :: xs, _ :: vs, _, h => by
    simp only [RpL] at h
    obtain ⟨f1, f2, _, h2, _⟩ := h
    simp [RpL.len h2]
  | _, [], _ :: _, _, h => by simp [RpL] at h
  | _, _ :: _, [], _, h => by simp [RpL] at h
theorem SqL.mono {K : PySem.W.Frag} {H H' : Hp} {a : Addr} {xs : List V} (e : ∀ u, Rd H a u → Rd H' a u) (h : SqL K H a xs) : SqL K H' a xs := h.imp (e _) id
theorem SqT.mono {K : PySem.W.Frag} {H H' : Hp} {a : Addr} {xs : List V} (e : ∀ u, Rd H a u → Rd H' a u) (h : SqT K H a xs) : SqT K H' a xs := h.imp (e _) id
theorem Same.rd (s : Same H H') {a : Addr} {u : HO} : Rd H a u → Rd H' a u
  | .inl h => .inl (s _ _ h)
  | .inr ⟨o, h⟩ => .inr ⟨o, s _ _ h⟩
/-- what must stay for a tree to stay -/
structure Keep (K : PySem.W.Frag) (F H F' H' : Hp) (view : Bool) (fp : List Addr) : Prop where
  fr : Same F F'
  tp : ∀ a xs, SqT K H a xs → SqT K H' a xs
  ow : ∀ a ∈ fp, (∀ o, H a = some o → H' a = some o) ∧ F' a = none
  vw : view = true → Same H H'
theorem Keep.sub {b : Bool} {fp fq : List Addr} (k : Keep K F H F' H' b fp) (h : ∀ a ∈ fq, a ∈ fp) : Keep K F H F' H' b fq :=
  ⟨k.fr, k.tp, fun a m => k.ow a (h a m), k.vw⟩
theorem kidR_view (o : Own) : (kidR o).isView = o.isView := by cases o <;> rfl
theorem LstAt.keep {o : Own} {a : Addr} {vs : List V} {hd : List Addr} (k : Keep K F H F' H' o.isView hd) (h : LstAt K F H o a vs hd) : LstAt K F' H' o a vs hd := by
  cases o with
  | view i => exact ⟨Same.rd (k.vw rfl) h.1, h.2⟩
  | cold => exact ⟨Same.rd k.fr h.1, h.2⟩
  | shal =>
    obtain ⟨h1, h2, rfl⟩ := h
    exact ⟨(k.ow a (by simp)).1 _ h1, (k.ow a (by simp)).2, rfl⟩
  | full =>
    obtain ⟨h1, h2, rfl⟩ := h
    exact ⟨(k.ow a (by simp)).1 _ h1, (k.ow a (by simp)).2, rfl⟩
  | flds _ => exact h
mutual
theorem Rp.keep : ∀ {t : T} {o : Own} {v : V} {fp : List Addr}, Keep K F H F' H' o.isView fp → Rp K F H o t v fp → Rp K F' H' o t v fp
  | .non, _, _, _, _, h => by simpa only [Rp] using h
  | .bl _, _, _, _, _, h => by simpa only [Rp] using h
  | .int _, _, _, _, _, h => by simpa only [Rp] using h
  | .str _, _, _, _, _, h => by simpa only [Rp] using h
  | .tup xs, o, v, fp, k, h => by
    simp only [Rp] at h ⊢
    obtain ⟨a, vs, e, s, r⟩ := h
    exact ⟨a, vs, e, k.tp _ _ s, RpL.keep (by rw [kidR_view]; exact k) r⟩
  | .lst xs, o, v, fp, k, h => by
    simp only [Rp] at h ⊢
    obtain ⟨a, vs, hd, fp', e, s, r, ef⟩ := h
    subst ef
    exact ⟨a, vs, hd, fp', e, s.keep (k.sub fun _ m => List.mem_append_left _ m), RpL.keep (by rw [kidR_view]; exact k.sub fun _ m => List.mem_append_right _ m) r, rfl⟩
  | .dct _ _, _, _, _, _, h => by simp only [Rp] at h
  | .obj _ _ _, _, _, _, _, h => by simp only [Rp] at h
theorem RpL.keep : ∀ {xs : List T} {o : Own} {vs : List V} {fp : List Addr}, Keep K F H F' H' o.isView fp → RpL K F H o xs vs fp → RpL K F' H' o xs vs fp
  | [], _, [], _, _, h => by simpa only [RpL] using h
  | x :: xs, o, v :: vs, fp, k, h => by
    simp only [RpL] at h ⊢
    obtain ⟨f1, f2, h1, h2, ef⟩ := h
    subst ef
    exact ⟨f1, f2, Rp.keep (k.sub fun _ m => List.mem_append_left _ m) h1, RpL.keep (k.sub fun _ m => List.mem_append_right _ m) h2, rfl⟩
  | [], _, _ :: _, _, _, h => by simp [RpL] at h
  | _ :: _, _, [], _, _, h => by simp [RpL] at h
end
mutual
/-- a tree without lists holds under any claim -/
theorem Rp.nl : ∀ {t : T} {o : Own} {v : V} {fp : List Addr}, t.nl = true → Rp K F H o t v fp → fp = [] ∧ ∀ o' F', Rp K F' H o' t v []
  | .non, _, _, _, _, h => by simp only [Rp] at h ⊢; exact ⟨h.2, fun _ _ => ⟨h.1, trivial⟩⟩
  | .bl _, _, _, _, _, h => by simp only [Rp] at h ⊢; exact ⟨h.2, fun _ _ => ⟨h.1, trivial⟩⟩
  | .int _, _, _, _, _, h => by simp only [Rp] at h ⊢; exact ⟨h.2, fun _ _ => ⟨h.1, trivial⟩⟩
  | .str _, _, _, _, _, h => by simp only [Rp] at h ⊢; exact ⟨h.2.1, fun _ _ => ⟨h.1, trivial, h.2.2⟩⟩
  | .tup xs, o, v, fp, n, h => by
    simp only [Rp] at h ⊢
    obtain ⟨a, vs, e, s, r⟩ := h
    obtain ⟨e1, q⟩ := RpL.nl (by simpa only [T.nl] using n) r
    exact ⟨e1, fun o' F' => ⟨a, vs, e, s, q _ _⟩⟩
  | .lst xs, _, _, _, n, _ => by simp [T.nl] at n
  | .dct _ _, _, _, _, n, _ => by simp [T.nl] at n
  | .obj _ _ _, _, _, _, n, _ => by simp [T.nl] at n
theorem RpL.nl : ∀ {xs : List T} {o : Own} {vs : List V} {fp : List Addr}, nlL xs = true → RpL K F H o xs vs fp → fp = [] ∧ ∀ o' F', RpL K F' H o' xs vs []
  | [], _, [], _, _, h => by simp only [RpL] at h ⊢; exact ⟨h, fun _ _ => trivial⟩
  | x :: xs, o, v :: vs, fp, n, h => by
    simp only [RpL] at h ⊢
    obtain ⟨f1, f2, h1, h2, ef⟩ := h
    simp only [nlL, Bool.and_eq_true] at n
    obtain ⟨e1, q1⟩ := Rp.nl n.1 h1
    obtain ⟨e2, q2⟩ := RpL.nl n.2 h2
    subst e1 e2
    exact ⟨ef, fun o' F' => ⟨[], [], q1 _ _, q2 _ _, rfl⟩⟩
  | [], _, _ :: _, _, _, h => by simp [RpL] at h
  | _ :: _, _, [], _, _, h => by simp [RpL] at h
end
theorem LstAt.view {o : Own} {a : Addr} {vs : List V} {hd : List Addr} (s : Same F H) (h : LstAt K F H o a vs hd) : Rd H a (.lst vs) := by
  cases o with
  | view i => exact h.1
  | cold => exact Same.rd s h.1
  | shal => exact .inl h.1
  | full => exact .inl h.1
  | flds _ => exact h.elim
mutual
/-- whatever is claimed, it may be looked at -/
theorem Rp.view (s : Same F H) (i : Nat) : ∀ {t : T} {o : Own} {v : V} {fp : List Addr}, Rp K F H o t v fp → Rp K F H (.view i) t v []
  | .non, _, _, _, h => by simp only [Rp] at h ⊢; exact ⟨h.1, trivial⟩
  | .bl _, _, _, _, h => by simp only [Rp] at h ⊢; exact ⟨h.1, trivial⟩
  | .int _, _, _, _, h => by simp only [Rp] at h ⊢; exact ⟨h.1, trivial⟩
  | .str _, _, _, _, h => by simp only [Rp] at h ⊢; exact ⟨h.1, trivial, h.2.2⟩
  | .tup xs, o, v, fp, h => by
    simp only [Rp] at h ⊢
    obtain ⟨a, vs, e, q, r⟩ := h
    exact ⟨a, vs, e, q, RpL.view s i r⟩
  | .lst xs, o, v, fp, h => by
    simp only [Rp] at h ⊢
    obtain ⟨a, vs, hd, fp', e, q, r, ef⟩ := h
    exact ⟨a, vs, [], [], e, ⟨q.view s, rfl⟩, RpL.view s i r, rfl⟩
  | .dct _ _, _, _, _, h => by simp only [Rp] at h
  | .obj _ _ _, _, _, _, h => by simp only [Rp] at h
theorem RpL.view (s : Same F H) (i : Nat) : ∀ {xs : List T} {o : Own} {vs : List V} {fp : List Addr}, RpL K F H o xs vs fp → RpL K F H (.view i) xs vs []
  | [], _, [], _, h => by simp only [RpL]
  | x :: xs, o, v :: vs, fp, h => by
    simp only [RpL] at h ⊢
    obtain ⟨f1, f2, h1, h2, ef⟩ := h
    exact ⟨[], [], Rp.view s i h1, RpL.view s i h2, rfl⟩
  | [], _, _ :: _, _, h => by simp [RpL] at h
  | _ :: _, _, [], _, h => by simp [RpL] at h
end
theorem LstAt.frz {o : Own} {a : Addr} {vs : List V} {hd : List Addr} (nv : o.isView = false) (s : Same F F') (f : ∀ a ∈ hd, F' a = H a) (h : LstAt K F H o a vs hd) : Rd F' a (.lst vs) := by
  cases o with
  | view i => cases nv
  | cold => exact Same.rd s h.1
  | shal =>
    obtain ⟨h1, h2, rfl⟩ := h
    exact .inl ((f a (by simp)).trans h1)
  | full =>
    obtain ⟨h1, h2, rfl⟩ := h
    exact .inl ((f a (by simp)).trans h1)
  | flds _ => exact h.elim
mutual
/-- shared from now on -/
theorem Rp.frz (s : Same F F') : ∀ {t : T} {o : Own} {v : V} {fp : List Addr}, o.isView = false → (∀ a ∈ fp, F' a = H a) → Rp K F H o t v fp → Rp K F' H .cold t v []
  | .non, _, _, _, _, _, h => by simp only [Rp] at h ⊢; exact ⟨h.1, trivial⟩
  | .bl _, _, _, _, _, _, h => by simp only [Rp] at h ⊢; exact ⟨h.1, trivial⟩
  | .int _, _, _, _, _, _, h => by simp only [Rp] at h ⊢; exact ⟨h.1, trivial⟩
  | .str _, _, _, _, _, _, h => by simp only [Rp] at h ⊢; exact ⟨h.1, trivial, h.2.2⟩
  | .tup xs, o, v, fp, nv, f, h => by
    simp only [Rp] at h ⊢
    obtain ⟨a, vs, e, q, r⟩ := h
    exact ⟨a, vs, e, q, RpL.frz s (by rw [kidR_view]; exact nv) f r⟩
  | .lst xs, o, v, fp, nv, f, h => by
    simp only [Rp] at h ⊢
    obtain ⟨a, vs, hd, fp', e, q, r, ef⟩ := h
    subst ef
    exact ⟨a, vs, [], [], e, ⟨q.frz nv s fun a m => f a (List.mem_append_left _ m), rfl⟩, RpL.frz s (by rw [kidR_view]; exact nv) (fun a m => f a (List.mem_append_right _ m)) r, rfl⟩
  | .dct _ _, _, _, _, _, _, h => by simp only [Rp] at h
  | .obj _ _ _, _, _, _, _, _, h => by simp only [Rp] at h
theorem RpL.frz (s : Same F F') : ∀ {xs : List T} {o : Own} {vs : List V} {fp : List Addr}, o.isView = false → (∀ a ∈ fp, F' a = H a) → RpL K F H o xs vs fp → RpL K F' H .cold xs vs []
  | [], _, [], _, _, _, h => by simp only [RpL]
  | x :: xs, o, v :: vs, fp, nv, f, h => by
    simp only [RpL] at h ⊢
    obtain ⟨f1, f2, h1, h2, ef⟩ := h
    subst ef
    exact ⟨[], [], Rp.frz s nv (fun a m => f a (List.mem_append_left _ m)) h1, RpL.frz s nv (fun a m => f a (List.mem_append_right _ m)) h2, rfl⟩
  | [], _, _ :: _, _, _, _, h => by simp [RpL] at h
  | _ :: _, _, [], _, _, _, h => by simp [RpL] at h
end
theorem LstAt.own {o : Own} {a : Addr} {vs : List V} {hd : List Addr} (h : LstAt K F H o a vs hd) : ∀ b ∈ hd, ∃ xs, H b = some (.lst xs) := by
  cases o with
  | view i => rw [h.2]; simp
  | cold => rw [h.2]; simp
  | shal => obtain ⟨h1, h2, rfl⟩ := h; intro b m; simp at m; subst m; exact ⟨_, h1⟩
  | full => obtain ⟨h1, h2, rfl⟩ := h; intro b m; simp at m; subst m; exact ⟨_, h1⟩
  | flds _ => exact h.elim
mutual
/-- one's own addresses bear lists -/
theorem Rp.own : ∀ {t : T} {o : Own} {v : V} {fp : List Addr}, Rp K F H o t v fp → ∀ b ∈ fp, ∃ xs, H b = some (.lst xs)
  | .non, _, _, _, h => by simp only [Rp] at h; rw [h.2]; simp
  | .bl _, _, _, _, h => by simp only [Rp] at h; rw [h.2]; simp
  | .int _, _, _, _, h => by simp only [Rp] at h; rw [h.2]; simp
  | .str _, _, _, _, h => by simp only [Rp] at h; rw [h.2.1]; simp
  | .tup xs, o, v, fp, h => by
    simp only [Rp] at h
    obtain ⟨a, vs, e, q, r⟩ := h
    exact RpL.own r
  | .lst xs, o, v, fp, h => by
    simp only [Rp] at h
    obtain ⟨a, vs, hd, fp', e, q, r, ef⟩ := h
    subst ef
    intro b m
    rcases List.mem_append.mp m with m | m
    · exact q.own b m
    · exact RpL.own r b m
  | .dct _ _, _, _, _, h => by simp only [Rp] at h
  | .obj _ _ _, _, _, _, h => by simp only [Rp] at h
theorem RpL.own : ∀ {xs : List T} {o : Own} {vs : List V} {fp : List Addr}, RpL K F H o xs vs fp → ∀ b ∈ fp, ∃ xs, H b = some (.lst xs)
  | [], _, [], _, h => by simp only [RpL] at h; rw [h]; simp
  | x :: xs, o, v :: vs, fp, h => by
    simp only [RpL] at h
    obtain ⟨f1, f2, h1, h2, ef⟩ := h
    subst ef
    intro b m
    rcases List.mem_append.mp m with m | m
    · exact Rp.own h1 b m
    · exact RpL.own h2 b m
  | [], _, _ :: _, _, h => by simp [RpL] at h
  | _ :: _, _, [], _, h => by simp [RpL] at h
end
mutual
theorem Rp.none_of {o : Own} (ho : o = .cold ∨ o.isView = true) : ∀ {t : T} {v : V} {fp : List Addr}, Rp K F H o t v fp → fp = []
  | .non, _, _, h => by simp only [Rp] at h; exact h.2
  | .bl _, _, _, h => by simp only [Rp] at h; exact h.2
  | .int _, _, _, h => by simp only [Rp] at h; exact h.2
  | .str _, _, _, h => by simp only [Rp] at h; exact h.2.1
  | .tup xs, v, fp, h => by
    simp only [Rp] at h
    obtain ⟨a, vs, e, q, r⟩ := h
    have e1 : kidR o = o := by
      rcases ho with rfl | ho
      · rfl
      · cases o <;> first | rfl | cases ho
    rw [e1] at r
    exact RpL.none_of ho r
  | .lst xs, v, fp, h => by
    simp only [Rp] at h
    obtain ⟨a, vs, hd, fp', e, q, r, ef⟩ := h
    have e1 : kidR o = o := by
      rcases ho with rfl | ho
      · rfl
      · cases o <;> first | rfl | cases ho
    rw [e1] at r
    have e2 := RpL.none_of ho r
    have e3 : hd = [] := by
      rcases ho with rfl | ho
      · exact q.2
      · cases o <;> first | exact q.2 | cases ho
    rw [ef, e2, e3]; rfl
  | .dct _ _, _, _, h => by simp only [Rp] at h
  | .obj _ _ _, _, _, h => by simp only [Rp] at h
theorem RpL.none_of {o : Own} (ho : o = .cold ∨ o.isView = true) : ∀ {xs : List T} {vs : List V} {fp : List Addr}, RpL K F H o xs vs fp → fp = []
  | [], [], _, h => by simpa only [RpL] using h
  | x :: xs, v :: vs, fp, h => by
    simp only [RpL] at h
    obtain ⟨f1, f2, h1, h2, ef⟩ := h
    rw [ef, Rp.none_of ho h1, RpL.none_of ho h2]; rfl
  | [], _ :: _, _, h => by simp [RpL] at h
  | _ :: _, [], _, h => by simp [RpL] at h
end
/-- one item -/
theorem RpL.get : ∀ {xs : List T} {o : Own} {vs : List V} {fp : List Addr} {j : Nat} {x : T}, RpL K F H o xs vs fp → xs[j]? = some x →
    ∃ v l f r, vs[j]? = some v ∧ Rp K F H o x v f ∧ fp = l ++ (f ++ r)
  | [], _, _, _, _, _, _, e => by simp at e
  | _ :: _, _, [], _, _, _, h, _ => by simp [RpL] at h
  | x :: xs, o, v :: vs, fp, 0, y, h, e => by
    simp only [RpL] at h
    obtain ⟨f1, f2, h1, h2, ef⟩ := h
    have e : x = y := by simpa using e
    subst e
    exact ⟨v, [], f1, f2, rfl, h1, ef⟩
  | x :: xs, o, v :: vs, fp, j + 1, y, h, e => by
    simp only [RpL] at h
    obtain ⟨f1, f2, h1, h2, ef⟩ := h
    obtain ⟨w, l, f, r, e1, h3, e2⟩ := RpL.get (j := j) h2 (by simpa using e)
    exact ⟨w, f1 ++ l, f, r, by simpa using e1, h3, by rw [ef, e2, List.append_assoc]⟩
theorem RpL.append : ∀ {xs ys : List T} {o : Own} {vs ws : List V} {fp fq : List Addr}, RpL K F H o xs vs fp → RpL K F H o ys ws fq → RpL K F H o (xs ++ ys) (vs ++ ws) (fp ++ fq)
  | [], _, _, [], _, fp, _, h, h' => by
    simp only [RpL] at h
    subst h
    exact h'
  | x :: xs, ys, o, v :: vs, ws, fp, fq, h, h' => by
    simp only [RpL] at h
    obtain ⟨f1, f2, h1, h2, ef⟩ := h
    subst ef
    simp only [List.cons_append, RpL]
    exact ⟨f1, f2 ++ fq, h1, RpL.append h2 h', by rw [List.append_assoc]⟩
  | [], _, _, _ :: _, _, _, _, h, _ => by simp [RpL] at h
  | _ :: _, _, _, [], _, _, _, h, _ => by simp [RpL] at h
theorem RpL.one {o : Own} {x : T} {v : V} {fp : List Addr} : RpL K F H o [x] [v] fp ↔ Rp K F H o x v fp := by
  simp only [RpL]
  constructor
  · rintro ⟨f1, f2, h, rfl, rfl⟩; simpa using h
  · intro h; exact ⟨fp, [], h, rfl, by simp⟩
/-- cold items, wherever they are picked from -/
theorem RpL.sub {o : Own} (ho : o = .cold ∨ o.isView = true) {xs : List T} {vs : List V} {fp : List Addr} (h : RpL K F H o xs vs fp) :
    ∀ {ys : List T} {ws : List V}, ys.length = ws.length → (∀ (j : Nat) (y : T), ys[j]? = some y → ∃ i : Nat, xs[i]? = some y ∧ vs[i]? = ws[j]?) → RpL K F H o ys ws []
  | [], [], _, _ => by simp only [RpL]
  | y :: ys, w :: ws, hl, hs => by
    simp only [RpL]
    obtain ⟨i, e1, e2⟩ := hs 0 y rfl
    obtain ⟨v, l, f, r, e3, h3, e4⟩ := h.get e1
    have e5 : v = w := by rw [e2] at e3; simpa using e3.symm
    subst e5
    have e6 := Rp.none_of ho h3
    subst e6
    exact ⟨[], [], h3, RpL.sub ho h (by simpa using hl) (fun j z e => by
      obtain ⟨i, q1, q2⟩ := hs (j + 1) z (by simpa using e)
      exact ⟨i, q1, by simpa using q2⟩), rfl⟩
  | [], _ :: _, hl, _ => by simp at hl
  | _ :: _, [], hl, _ => by simp at hl
end
end Ev
namespace Ev
open PySem PySem.Spec PyProof.Rows L2
/-- temporaries under one claim -/
structure Gp where
  o : Own
  ts : List T
  vs : List V
abbrev g1 (o : Own) (t : T) (v : V) : Gp := ⟨o, [t], [v]⟩
section
variable (K : PySem.W.Frag) (F H : Hp)
def SlotAt (s : Slot) (x : Option V) (fp : List Addr) : Prop := match s with
  | none => fp = []
  | some (t, o) => o.isView = false ∧ ∃ v, x = some v ∧ Rp K F H o t v fp
def REnv : Env → L2.St → List Addr → Prop
  | [], [], fp => fp = []
  | s :: ρ, x :: σ, fp => ∃ f1 f2, SlotAt K F H s x f1 ∧ REnv ρ σ f2 ∧ fp = f1 ++ f2
  | _, _, _ => False
def RTmp : List Gp → List Addr → Prop
  | [], fp => fp = []
  | g :: τ, fp => ∃ f1 f2, RpL K F H g.o g.ts g.vs f1 ∧ RTmp τ f2 ∧ fp = f1 ++ f2
end
structure Core (K : PySem.W.Frag) (H0 F0 : Hp) (ρ : Env) (σ : L2.St) (τ : List Gp) (H F : Hp) (fρ fτ : List Addr) : Prop where
  fh : Same F H
  h0 : Same H0 H
  f0 : ∀ a, H0 a ≠ none → F a = F0 a
  ow : ∀ a ∈ fρ ++ fτ, H0 a = none ∧ F a = none
  nd : (fρ ++ fτ).Nodup
  env : REnv K F H ρ σ fρ
  tmp : RTmp K F H τ fτ
/-- slots ρ and temporaries τ lie in the heap H, of a def entered at H0 with the shared part F0 -/
structure I (K : PySem.W.Frag) (H0 F0 : Hp) (ρ : Env) (σ : L2.St) (τ : List Gp) (H : Hp) : Prop where
  ex : ∃ F fρ fτ, Core K H0 F0 ρ σ τ H F fρ fτ
section
variable {K : PySem.W.Frag} {H0 F0 F H F' H' : Hp} {ρ ρ' : Env} {σ σ' : L2.St} {τ τ' : List Gp} {fρ fτ fp : List Addr} {o o' : Own} {t t' : T} {v : V} {ts : List T} {vs : List V} {g : Gp}
theorem SlotAt.keep {s : Slot} {x : Option V} (k : Keep K F H F' H' false fp) (h : SlotAt K F H s x fp) : SlotAt K F' H' s x fp := by
  cases s with
  | none => exact h
  | some p =>
    obtain ⟨t, o⟩ := p
    obtain ⟨h1, v, e, r⟩ := h
    exact ⟨h1, v, e, Rp.keep (by rw [h1]; exact k) r⟩
theorem REnv.keep : ∀ {ρ : Env} {σ : L2.St} {fp : List Addr}, Keep K F H F' H' false fp → REnv K F H ρ σ fp → REnv K F' H' ρ σ fp
  | [], [], _, _, h => h
  | s :: ρ, x :: σ, fp, k, h => by
    simp only [REnv] at h ⊢
    obtain ⟨f1, f2, h1, h2, ef⟩ := h
    subst ef
    exact ⟨f1, f2, h1.keep (k.sub fun _ m => List.mem_append_left _ m), REnv.keep (k.sub fun _ m => List.mem_append_right _ m) h2, rfl⟩
  | [], _ :: _, _, _, h => h.elim
  | _ :: _, [], _, _, h => h.elim
theorem Gp.keep {g : Gp} {b : Bool} (k : Keep K F H F' H' b fp) (hb : b = false → g.o.isView = false) (h : RpL K F H g.o g.ts g.vs fp) : RpL K F' H' g.o g.ts g.vs fp :=
  RpL.keep ⟨k.fr, k.tp, k.ow, fun e => k.vw (by
    cases b with
    | true => rfl
    | false => rw [hb rfl] at e; cases e)⟩ h
theorem RTmp.keep {b : Bool} : ∀ {τ : List Gp} {fp : List Addr}, Keep K F H F' H' b fp → (b = false → ∀ g ∈ τ, g.o.isView = false) → RTmp K F H τ fp → RTmp K F' H' τ fp
  | [], _, _, _, h => h
  | g :: τ, fp, k, hb, h => by
    simp only [RTmp] at h ⊢
    obtain ⟨f1, f2, h1, h2, ef⟩ := h
    subst ef
    exact ⟨f1, f2, Gp.keep (k.sub fun _ m => List.mem_append_left _ m) (fun e => hb e g (by simp)) h1, RTmp.keep (k.sub fun _ m => List.mem_append_right _ m) (fun e x m => hb e x (by simp [m])) h2, rfl⟩
theorem REnv.len : ∀ {ρ : Env} {σ : L2.St} {fp : List Addr}, REnv K F H ρ σ fp → ρ.length = σ.length
  | [], [], _, _ => rfl
  | _ :: ρ, _ :: σ, _, h => by
    obtain ⟨_, _, _, h2, _⟩ := h
    simp [REnv.len h2]
  | [], _ :: _, _, h => h.elim
  | _ :: _, [], _, h => h.elim
/-- one slot and the others -/
theorem REnv.at_ : ∀ {ρ : Env} {σ : L2.St} {fp : List Addr} {i : Nat} {s : Slot}, REnv K F H ρ σ fp → ρ[i]? = some s →
    ∃ x l f r, σ[i]? = some x ∧ SlotAt K F H s x f ∧ fp = l ++ (f ++ r) ∧ ∀ s' x' f', SlotAt K F H s' x' f' → REnv K F H (ρ.set i s') (σ.set i x') (l ++ (f' ++ r))
  | [], _, _, _, _, _, e => by simp at e
  | _ :: _, [], _, _, _, h, _ => h.elim
  | s :: ρ, x :: σ, fp, 0, s0, h, e => by
    obtain ⟨f1, f2, h1, h2, ef⟩ := h
    have e : s = s0 := by simpa using e
    subst e
    exact ⟨x, [], f1, f2, rfl, h1, ef, fun s' x' f' h' => ⟨f', f2, h', h2, rfl⟩⟩
  | s :: ρ, x :: σ, fp, i + 1, s0, h, e => by
    obtain ⟨f1, f2, h1, h2, ef⟩ := h
    obtain ⟨y, l, f, r, e1, h3, e2, q⟩ := REnv.at_ (i := i) h2 (by simpa using e)
    exact ⟨y, f1 ++ l, f, r, by simpa using e1, h3, by rw [ef, e2, List.append_assoc], fun s' x' f' h' => ⟨f1, _, h1, q s' x' f' h', by rw [List.append_assoc]⟩⟩
theorem REnv.fp_own : ∀ {ρ : Env} {σ : L2.St} {fp : List Addr}, REnv K F H ρ σ fp → ∀ b ∈ fp, ∃ xs, H b = some (.lst xs)
  | [], [], _, h => by
    have h : _ = [] := h
    rw [h]; simp
  | s :: ρ, x :: σ, fp, h => by
    obtain ⟨f1, f2, h1, h2, ef⟩ := h
    subst ef
    intro b m
    rcases List.mem_append.mp m with m | m
    · cases s with
      | none => rw [show f1 = [] from h1] at m; simp at m
      | some p =>
        obtain ⟨t, o⟩ := p
        obtain ⟨_, v, _, r⟩ := h1
        exact r.own b m
    · exact REnv.fp_own h2 b m
  | [], _ :: _, _, h => h.elim
  | _ :: _, [], _, h => h.elim
theorem RTmp.fp_own : ∀ {τ : List Gp} {fp : List Addr}, RTmp K F H τ fp → ∀ b ∈ fp, ∃ xs, H b = some (.lst xs)
  | [], _, h => by
    have h : _ = [] := h
    rw [h]; simp
  | g :: τ, fp, h => by
    obtain ⟨f1, f2, h1, h2, ef⟩ := h
    subst ef
    intro b m
    rcases List.mem_append.mp m with m | m
    · exact h1.own b m
    · exact RTmp.fp_own h2 b m
theorem Keep.refl (h : ∀ a ∈ fp, F a = none) : Keep K F H F H true fp := ⟨fun _ _ e => e, fun _ _ e => e, fun a m => ⟨fun _ e => e, h a m⟩, fun _ _ _ e => e⟩
/-- the shared part grows by what is no one's own any more -/
theorem Keep.frz (s : Same F F') (h : ∀ a ∈ fp, F' a = none) : Keep K F H F' H true fp := ⟨s, fun _ _ e => e, fun a m => ⟨fun _ e => e, h a m⟩, fun _ _ _ e => e⟩
/-- the heap grows -/
theorem Keep.grow (s : Same H H') (h : ∀ a ∈ fp, F a = none) : Keep K F H F H' true fp := ⟨fun _ _ e => e, fun _ _ e => SqT.mono (fun _ => Same.rd s) e, fun a m => ⟨s a, h a m⟩, fun _ => s⟩
theorem I.drop (h : I K H0 F0 ρ σ (g :: τ) H) : I K H0 F0 ρ σ τ H := by
  obtain ⟨F, fρ, fτ, c⟩ := h
  obtain ⟨f1, f2, h1, h2, rfl⟩ := c.tmp
  exact ⟨F, fρ, f2, c.fh, c.h0, c.f0, fun a m => c.ow a (by simp only [List.mem_append] at m ⊢; grind), c.nd.sublist (by simp), c.env, h2⟩
theorem I.swap {g' : Gp} (h : I K H0 F0 ρ σ (g :: g' :: τ) H) : I K H0 F0 ρ σ (g' :: g :: τ) H := by
  obtain ⟨F, fρ, fτ, c⟩ := h
  obtain ⟨f1, f2, h1, ⟨f3, f4, h3, h4, rfl⟩, rfl⟩ := c.tmp
  refine ⟨F, fρ, f3 ++ (f1 ++ f4), c.fh, c.h0, c.f0, fun a m => c.ow a ?_, ?_, c.env, f3, f1 ++ f4, h3, ⟨f1, f4, h1, h4, rfl⟩, rfl⟩
  · simp only [List.mem_append] at m ⊢; grind
  · refine (List.Perm.nodup_iff ?_).mp c.nd
    refine List.Perm.append_left _ ?_
    rw [← List.append_assoc, ← List.append_assoc]
    exact List.Perm.append_right _ List.perm_append_comm
theorem I.drop2 {g' : Gp} (h : I K H0 F0 ρ σ (g :: g' :: τ) H) : I K H0 F0 ρ σ (g :: τ) H := h.swap.drop
/-- a claim without addresses -/
theorem I.push (h : I K H0 F0 ρ σ τ H) (q : ∀ F, Same F H → RpL K F H o ts vs []) : I K H0 F0 ρ σ (⟨o, ts, vs⟩ :: τ) H := by
  obtain ⟨F, fρ, fτ, c⟩ := h
  exact ⟨F, fρ, fτ, c.fh, c.h0, c.f0, c.ow, c.nd, c.env, [], fτ, q F c.fh, c.tmp, rfl⟩
/-- the claim on top turned -/
theorem I.map (h : I K H0 F0 ρ σ (g :: τ) H) (q : ∀ F fp, Same F H → RpL K F H g.o g.ts g.vs fp → ∃ fp', RpL K F H o ts vs fp' ∧ fp'.Sublist fp) : I K H0 F0 ρ σ (⟨o, ts, vs⟩ :: τ) H := by
  obtain ⟨F, fρ, fτ, c⟩ := h
  obtain ⟨f1, f2, h1, h2, rfl⟩ := c.tmp
  obtain ⟨f1', h1', sub⟩ := q F f1 c.fh h1
  refine ⟨F, fρ, f1' ++ f2, c.fh, c.h0, c.f0, fun a m => c.ow a ?_, c.nd.sublist ?_, c.env, f1', f2, h1', h2, rfl⟩
  · simp only [List.mem_append] at m ⊢
    rcases m with m | m | m
    · exact .inl m
    · exact .inr (.inl (sub.subset m))
    · exact .inr (.inr m)
  · exact List.Sublist.append (List.Sublist.refl _) (List.Sublist.append sub (List.Sublist.refl _))
theorem I.dup (h : I K H0 F0 ρ σ (g :: τ) H) (q : ∀ F fp, Same F H → RpL K F H g.o g.ts g.vs fp → RpL K F H o ts vs []) : I K H0 F0 ρ σ (⟨o, ts, vs⟩ :: g :: τ) H := by
  obtain ⟨F, fρ, fτ, c⟩ := h
  obtain ⟨f1, f2, h1, h2, e⟩ := id c.tmp
  exact ⟨F, fρ, fτ, c.fh, c.h0, c.f0, c.ow, c.nd, c.env, [], fτ, q F f1 c.fh h1, c.tmp, rfl⟩
/-- what is seen on top -/
theorem I.see (h : I K H0 F0 ρ σ (g :: τ) H) : ∃ F fp, Same F H ∧ RpL K F H g.o g.ts g.vs fp := by
  obtain ⟨F, fρ, fτ, c⟩ := h
  obtain ⟨f1, f2, h1, h2, e⟩ := c.tmp
  exact ⟨F, f1, c.fh, h1⟩
theorem I.same (h : I K H0 F0 ρ σ τ H) : Same H0 H := h.ex.elim fun _ ⟨_, _, c⟩ => c.h0
theorem I.len (h : I K H0 F0 ρ σ τ H) : ρ.length = σ.length := h.ex.elim fun _ ⟨_, _, c⟩ => c.env.len
/-- the heap grows -/
theorem I.grow (h : I K H0 F0 ρ σ τ H) (s : Same H H') : I K H0 F0 ρ σ τ H' := by
  obtain ⟨F, fρ, fτ, c⟩ := h
  exact ⟨F, fρ, fτ, c.fh.trans s, c.h0.trans s, c.f0, c.ow, c.nd, c.env.keep ⟨fun _ _ e => e, fun _ _ e => SqT.mono (fun _ => Same.rd s) e, fun a m => ⟨s a, (c.ow a (by simp [m])).2⟩, fun e => by cases e⟩,
    c.tmp.keep (b := true) (Keep.grow s fun a m => (c.ow a (by simp [m])).2) (fun e => by cases e)⟩
theorem same_upd {H : Hp} {p : Addr} {o : HO} (h : H p = none) : Same H (upd H p o) := fun b x e => by
  rw [upd_ne (ne_of_none e h)]; exact e
/-- the claim on top is given up: shared from now on -/
theorem I.frz (h : I K H0 F0 ρ σ (g :: τ) H) (nv : g.o.isView = false) : I K H0 F0 ρ σ (⟨.cold, g.ts, g.vs⟩ :: τ) H := by
  obtain ⟨F, fρ, fτ, c⟩ := h
  obtain ⟨f1, f2, h1, h2, rfl⟩ := c.tmp
  have nd := c.nd
  rw [List.nodup_append] at nd
  obtain ⟨n1, n2, n3⟩ := nd
  rw [List.nodup_append] at n2
  obtain ⟨n4, n5, n6⟩ := n2
  have hF : Same F (fun a => if a ∈ f1 then H a else F a) := fun a x e => by
    show (if a ∈ f1 then H a else F a) = some x
    split
    · exact c.fh a x e
    · exact e
  have hout : ∀ a, a ∉ f1 → (fun a => if a ∈ f1 then H a else F a) a = F a := fun a n => if_neg n
  have o2 : ∀ a ∈ f2, (fun a => if a ∈ f1 then H a else F a) a = none := fun a m => by
    rw [hout a fun q => n6 a q a m rfl]
    exact (c.ow a (by simp [m])).2
  have oρ : ∀ a ∈ fρ, (fun a => if a ∈ f1 then H a else F a) a = none := fun a m => by
    rw [hout a fun q => n3 a m a (by simp [q]) rfl]
    exact (c.ow a (by simp [m])).2
  refine ⟨fun a => if a ∈ f1 then H a else F a, fρ, f2, fun a x e => ?_, c.h0, fun a q => ?_, fun a m => ⟨(c.ow a (by simp only [List.mem_append] at m ⊢; grind)).1, ?_⟩, c.nd.sublist (by simp), ?_, [], f2, ?_, ?_, rfl⟩
  · have e : (if a ∈ f1 then H a else F a) = some x := e
    split at e
    · exact e
    · exact c.fh a x e
  · exact (hout a fun m => q (c.ow a (by simp [m])).1).trans (c.f0 a q)
  · rcases List.mem_append.mp m with m | m
    · exact oρ a m
    · exact o2 a m
  · exact c.env.keep ⟨hF, fun _ _ e => e, fun a m => ⟨fun _ e => e, oρ a m⟩, fun e => by cases e⟩
  · exact RpL.frz hF nv (fun a m => if_pos m) h1
  · exact h2.keep (Keep.frz hF o2) (fun e => by cases e)
/-- a slot's tree is taken out -/
theorem I.mov {i : Nat} (h : I K H0 F0 ρ σ τ H) (e : ρ[i]? = some (some (t, o))) : ∃ v, σ[i]? = some (some v) ∧ o.isView = false ∧ I K H0 F0 (ρ.set i none) σ (g1 o t v :: τ) H := by
  obtain ⟨F, fρ, fτ, c⟩ := h
  obtain ⟨x, l, f, r, e1, ⟨nv, v, ex, q⟩, ef, put⟩ := c.env.at_ e
  subst ex
  refine ⟨v, e1, nv, F, l ++ ([] ++ r), f ++ fτ, c.fh, c.h0, c.f0, fun a m => c.ow a ?_, ?_, ?_, f, fτ, RpL.one.mpr q, c.tmp, rfl⟩
  · rw [ef]; simp only [List.mem_append] at m ⊢; simp only [List.not_mem_nil, false_or] at m; grind
  · refine (List.Perm.nodup_iff ?_).mp c.nd
    rw [ef]
    simp only [List.nil_append, List.append_assoc]
    refine List.Perm.append_left _ ?_
    rw [← List.append_assoc, ← List.append_assoc]
    exact List.Perm.append_right _ List.perm_append_comm
  · have z := put none (some v) [] rfl
    have e2 : σ.set i (some v) = σ := List.ext_getElem? fun j => by
      by_cases ej : j = i
      · subst ej
        have hj : j < σ.length := (List.getElem?_eq_some_iff.mp e1).1
        rw [List.getElem?_set_self hj, e1]
      · rw [List.getElem?_set_ne (Ne.symm ej)]
    rw [e2] at z
    exact z
/-- a tree is put into a slot -/
theorem I.put {i : Nat} (h : I K H0 F0 ρ σ (g1 o t v :: τ) H) (nv : o.isView = false) (hi : i < ρ.length) : I K H0 F0 (ρ.set i (some (t, o))) (σ.set i (some v)) τ H := by
  obtain ⟨F, fρ, fτ, c⟩ := h
  obtain ⟨f1, f2, h1, h2, rfl⟩ := c.tmp
  obtain ⟨x, l, f, r, e1, q, ef, put⟩ := c.env.at_ (s := ρ[i]) (List.getElem?_eq_getElem hi)
  refine ⟨F, l ++ (f1 ++ r), f2, c.fh, c.h0, c.f0, fun a m => c.ow a ?_, ?_, put _ _ _ ⟨nv, v, rfl, RpL.one.mp h1⟩, h2⟩
  · rw [ef]; simp only [List.mem_append] at m ⊢; grind
  · have nd : ((l ++ (f1 ++ r)) ++ f2 ++ f).Nodup := by
      refine (List.Perm.nodup_iff ?_).mp c.nd
      rw [ef]
      simp only [List.append_assoc]
      refine List.Perm.append_left _ ?_
      have e3 : (f ++ (r ++ (f1 ++ f2))).Perm ((r ++ (f1 ++ f2)) ++ f) := List.perm_append_comm
      refine e3.trans ?_
      rw [← List.append_assoc (as := r), ← List.append_assoc (as := f1)]
      simp only [List.append_assoc]
      rw [← List.append_assoc, ← List.append_assoc (as := f1)]
      exact List.Perm.append_right _ List.perm_append_comm
    exact nd.sublist (by simp)
/-- a slot is left -/
theorem I.clear {i : Nat} {x : Option V} (h : I K H0 F0 ρ σ τ H) : I K H0 F0 (ρ.set i none) (σ.set i x) τ H := by
  by_cases hi : i < ρ.length
  · obtain ⟨F, fρ, fτ, c⟩ := h
    obtain ⟨y, l, f, r, e1, q, ef, put⟩ := c.env.at_ (s := ρ[i]) (List.getElem?_eq_getElem hi)
    refine ⟨F, l ++ ([] ++ r), fτ, c.fh, c.h0, c.f0, fun a m => c.ow a ?_, c.nd.sublist ?_, put none x [] rfl, c.tmp⟩
    · rw [ef]; simp only [List.mem_append, List.not_mem_nil, false_or] at m ⊢; grind
    · rw [ef]
      exact List.Sublist.append (List.Sublist.append (List.Sublist.refl _) (by simp)) (List.Sublist.refl _)
  · have hl := h.len
    rw [List.set_eq_of_length_le (by omega), List.set_eq_of_length_le (by omega)]
    exact h
/-- a slot is looked at -/
theorem I.look {i : Nat} (h : I K H0 F0 ρ σ τ H) (e : ρ[i]? = some (some (t, o))) : ∃ v, σ[i]? = some (some v) ∧ o.isView = false ∧ (∀ j, I K H0 F0 ρ σ (g1 (.view j) t v :: τ) H) ∧ (o = .cold → I K H0 F0 ρ σ (g1 .cold t v :: τ) H) ∧ (t.nl = true → I K H0 F0 ρ σ (g1 .full t v :: τ) H) := by
  obtain ⟨F, fρ, fτ, c⟩ := h
  obtain ⟨x, l, f, r, e1, ⟨nv, v, ex, q⟩, ef, put⟩ := c.env.at_ e
  subst ex
  refine ⟨v, e1, nv, fun j => ⟨F, fρ, fτ, c.fh, c.h0, c.f0, c.ow, c.nd, c.env, [], fτ, RpL.one.mpr (q.view c.fh j), c.tmp, rfl⟩, fun e => ?_, fun n => ?_⟩
  · subst e
    have z := q.none_of (.inl rfl)
    subst z
    exact ⟨F, fρ, fτ, c.fh, c.h0, c.f0, c.ow, c.nd, c.env, [], fτ, RpL.one.mpr q, c.tmp, rfl⟩
  · exact ⟨F, fρ, fτ, c.fh, c.h0, c.f0, c.ow, c.nd, c.env, [], fτ, RpL.one.mpr ((q.nl n).2 _ _), c.tmp, rfl⟩
theorem set_self {α : Type} {l : List α} {i : Nat} {x : α} (h : l[i]? = some x) : l.set i x = l := List.ext_getElem? fun j => by
  by_cases ej : j = i
  · subst ej
    rw [List.getElem?_set_self (List.getElem?_eq_some_iff.mp h).1, h]
  · rw [List.getElem?_set_ne (Ne.symm ej)]
theorem cold_dup (h : I K H0 F0 ρ σ (g1 .cold t v :: τ) H) : I K H0 F0 ρ σ (g1 .cold t v :: g1 .cold t v :: τ) H :=
  h.dup fun F fp s q => by
    have z := RpL.none_of (.inl rfl) q
    subst z
    exact q
/-- a slot's tree is shared from now on -/
theorem I.share {i : Nat} (h : I K H0 F0 ρ σ τ H) (e : ρ[i]? = some (some (t, o))) : ∃ v, σ[i]? = some (some v) ∧ I K H0 F0 (ρ.set i (some (t, .cold))) σ (g1 .cold t v :: τ) H := by
  obtain ⟨v, ev, nv, h1⟩ := h.mov e
  have h2 := h1.frz nv
  have hi : i < (ρ.set i none).length := by rw [List.length_set]; exact (List.getElem?_eq_some_iff.mp e).1
  have h3 := (cold_dup h2).put rfl hi
  rw [List.set_set, set_self ev] at h3
  exact ⟨v, ev, h3⟩
/-- a tree that was seen, as a value to be shared -/
theorem I.re {x : T × Env} (h : I K H0 F0 ρ σ (g1 o t v :: τ) H) (e : reT t o ρ = some x) (lk : ∀ i, o = .view i → σ[i]? = some (some v)) : I K H0 F0 x.2 σ (g1 .cold x.1 v :: τ) H := by
  cases o with
  | view i =>
    simp only [reT] at e
    split at e
    · rename_i t' o' e1
      cases e
      obtain ⟨w, ew, h2⟩ := h.drop.share e1
      rw [lk i rfl] at ew; cases ew
      exact h2
    · cases e
  | cold => cases e; exact h
  | shal => cases e; exact h.frz rfl
  | full => cases e; exact h.frz rfl
  | flds os => cases e; exact h.frz rfl
/-- as a value to be kept -/
theorem I.val {r r' : R} (h : I K H0 F0 r.ρ σ (g1 r.o r.t v :: τ) H) (e : val r = some r') (lk : ∀ i, r.o = .view i → σ[i]? = some (some v)) : r'.o.isView = false ∧ I K H0 F0 r'.ρ σ (g1 r'.o r'.t v :: τ) H := by
  obtain ⟨t, o, ρ⟩ := r
  cases o with
  | view i =>
    simp only [Ev.val] at e
    split at e
    · rename_i t' o' e1
      cases e
      obtain ⟨w, ew, h2⟩ := h.drop.share e1
      rw [lk i rfl] at ew; cases ew
      exact ⟨rfl, h2⟩
    · cases e
  | cold => cases e; exact ⟨rfl, h⟩
  | shal => cases e; exact ⟨rfl, h⟩
  | full => cases e; exact ⟨rfl, h⟩
  | flds os => cases e; exact ⟨rfl, h⟩
/-- without lists any claim holds -/
theorem I.nl (h : I K H0 F0 ρ σ (g1 o t v :: τ) H) (n : t.nl = true) : I K H0 F0 ρ σ (g1 o' t v :: τ) H :=
  h.map fun F fp s q => ⟨[], RpL.one.mpr (((RpL.one.mp q).nl n).2 _ _), List.nil_sublist _⟩
theorem I.mkR (h : I K H0 F0 ρ σ (g1 o t v :: τ) H) : I K H0 F0 (Ev.mk t o ρ).ρ σ (g1 (Ev.mk t o ρ).o (Ev.mk t o ρ).t v :: τ) H := by
  unfold Ev.mk
  split
  · rename_i n; exact h.nl n
  · exact h
/-- a new object at p: what is claimed of it, no one's own ahead -/
theorem I.lay {p : Addr} {ob : HO} {o' : Own} {t : T} (h : I K H0 F0 ρ σ (⟨o, ts, vs⟩ :: τ) H) (hp : H p = none)
    (q : ∀ F fp, Same F H → F p = none → RpL K F (upd H p ob) o ts vs fp → ∃ hd, Rp K F (upd H p ob) o' t (.ref p) (hd ++ fp) ∧ (hd = [] ∨ hd = [p])) : I K H0 F0 ρ σ (g1 o' t (.ref p) :: τ) (upd H p ob) := by
  have s := same_upd (o := ob) hp
  obtain ⟨F, fρ, fτ, c⟩ := h
  obtain ⟨f1, f2, h1, h2, rfl⟩ := c.tmp
  have Fp : F p = none := c.fh.free hp
  have npρ : p ∉ fρ := fun m => by
    obtain ⟨xs, e⟩ := c.env.fp_own p m
    rw [hp] at e; cases e
  have np1 : p ∉ f1 := fun m => by
    obtain ⟨xs, e⟩ := RpL.own h1 p m
    rw [hp] at e; cases e
  have np2 : p ∉ f2 := fun m => by
    obtain ⟨xs, e⟩ := h2.fp_own p m
    rw [hp] at e; cases e
  have k1 : RpL K F (upd H p ob) o ts vs f1 := RpL.keep ⟨fun _ _ e => e, fun _ _ e => SqT.mono (fun _ => Same.rd s) e, fun a m => ⟨s a, (c.ow a (by simp [m])).2⟩, fun _ => s⟩ h1
  obtain ⟨hd, r, ehd⟩ := q F f1 c.fh Fp k1
  refine ⟨F, fρ, (hd ++ f1) ++ f2, c.fh.trans s, c.h0.trans s, c.f0, fun a m => ?_, ?_, c.env.keep ⟨fun _ _ e => e, fun _ _ e => SqT.mono (fun _ => Same.rd s) e, fun a m => ⟨s a, (c.ow a (by simp [m])).2⟩, fun e => by cases e⟩,
    hd ++ f1, f2, RpL.one.mpr r, h2.keep (b := true) (Keep.grow s fun a m => (c.ow a (by simp [m])).2) (fun e => by cases e), rfl⟩
  · rcases ehd with rfl | rfl
    · exact c.ow a (by simpa using m)
    · by_cases ea : a = p
      · subst ea; exact ⟨c.h0.free hp, Fp⟩
      · exact c.ow a (by simp only [List.mem_append, List.mem_singleton] at m ⊢; grind)
  · rcases ehd with rfl | rfl
    · simpa using c.nd
    · have nd := c.nd
      have e : (fρ ++ ([p] ++ f1 ++ f2)).Perm (p :: (fρ ++ (f1 ++ f2))) := by
        simp only [List.singleton_append, List.cons_append]
        exact List.perm_middle
      rw [e.nodup_iff, List.nodup_cons]
      exact ⟨by simp [npρ, np1, np2], nd⟩
/-- a new list of the values on top -/
theorem I.newLst {p : Addr} (h : I K H0 F0 ρ σ (⟨o, ts, vs⟩ :: τ) H) (ho : o = .full ∨ o = .cold) (hp : H p = none) : I K H0 F0 ρ σ (g1 (if o.isFull then .full else .shal) (.lst ts) (.ref p) :: τ) (upd H p (.lst vs)) := by
  refine h.lay hp fun F fp s Fp r => ⟨[p], ?_, .inr rfl⟩
  simp only [Rp]
  refine ⟨p, vs, [p], fp, rfl, ?_, ?_, rfl⟩
  · rcases ho with rfl | rfl
    · exact ⟨upd_same, Fp, rfl⟩
    · exact ⟨upd_same, Fp, rfl⟩
  · rcases ho with rfl | rfl
    · exact r
    · exact r
/-- a new tuple -/
theorem I.newTup {p : Addr} (h : I K H0 F0 ρ σ (⟨o, ts, vs⟩ :: τ) H) (ho : o = .full ∨ o = .cold) (hp : H p = none) : I K H0 F0 ρ σ (g1 o (.tup ts) (.ref p) :: τ) (upd H p (.tup vs)) := by
  refine h.lay hp fun F fp s Fp r => ⟨[], ?_, .inl rfl⟩
  simp only [Rp]
  refine ⟨p, vs, rfl, SqT.of upd_same, ?_⟩
  rcases ho with rfl | rfl
  · exact r
  · exact r
/-- two groups as one -/
theorem I.join {ts' : List T} {vs' : List V} (h : I K H0 F0 ρ σ (⟨o, ts, vs⟩ :: ⟨o, ts', vs'⟩ :: τ) H) : I K H0 F0 ρ σ (⟨o, ts ++ ts', vs ++ vs'⟩ :: τ) H := by
  obtain ⟨F, fρ, fτ, c⟩ := h
  obtain ⟨f1, f2, h1, ⟨f3, f4, h3, h4, rfl⟩, rfl⟩ := c.tmp
  exact ⟨F, fρ, (f1 ++ f3) ++ f4, c.fh, c.h0, c.f0, fun a m => c.ow a (by simpa using m), by simpa using c.nd, c.env, f1 ++ f3, f4, RpL.append h1 h3, h4, rfl⟩
/-- what stands on top, to be turned -/
theorem I.top (h : I K H0 F0 ρ σ (g :: τ) H) : ∃ F fp, Same F H ∧ RpL K F H g.o g.ts g.vs fp ∧
    (∀ o' ts' vs' fp', RpL K F H o' ts' vs' fp' → fp'.Sublist fp → I K H0 F0 ρ σ (⟨o', ts', vs'⟩ :: τ) H) ∧ ∀ o' ts' vs', RpL K F H o' ts' vs' [] → I K H0 F0 ρ σ (⟨o', ts', vs'⟩ :: g :: τ) H := by
  obtain ⟨F, fρ, fτ, c⟩ := h
  obtain ⟨f1, f2, h1, h2, e⟩ := id c.tmp
  subst e
  refine ⟨F, f1, c.fh, h1, fun o' ts' vs' fp' r sub => ⟨F, fρ, fp' ++ f2, c.fh, c.h0, c.f0, fun a m => c.ow a ?_, c.nd.sublist ?_, c.env, fp', f2, r, h2, rfl⟩,
    fun o' ts' vs' r => ⟨F, fρ, f1 ++ f2, c.fh, c.h0, c.f0, c.ow, c.nd, c.env, [], f1 ++ f2, r, c.tmp, rfl⟩⟩
  · simp only [List.mem_append] at m ⊢
    rcases m with m | m | m
    · exact .inl m
    · exact .inr (.inl (sub.subset m))
    · exact .inr (.inr m)
  · exact List.Sublist.append (List.Sublist.refl _) (List.Sublist.append sub (List.Sublist.refl _))
/-- the items of a list on top -/
theorem I.kidsL {xs : List T} (h : I K H0 F0 ρ σ (g1 o (.lst xs) v :: τ) H) : ∃ a ws, v = .ref a ∧ Rd H a (.lst ws) ∧ xs.length = ws.length ∧ I K H0 F0 ρ σ (⟨kidR o, xs, ws⟩ :: τ) H ∧
    (o = .full ∨ o = .shal → H a = some (.lst ws)) := by
  obtain ⟨F, fp, s, r, turn, _⟩ := h.top
  have r := RpL.one.mp r
  simp only [Rp] at r
  obtain ⟨a, ws, hd, fp', rfl, q, r, ef⟩ := r
  refine ⟨a, ws, rfl, q.view s, r.len, turn _ _ _ fp' r (by rw [ef]; exact List.sublist_append_right _ _), fun e => ?_⟩
  rcases e with rfl | rfl
  · exact q.1
  · exact q.1
theorem I.kidsT {xs : List T} (h : I K H0 F0 ρ σ (g1 o (.tup xs) v :: τ) H) : ∃ a ws, v = .ref a ∧ SqT K H a ws ∧ xs.length = ws.length ∧ I K H0 F0 ρ σ (⟨kidR o, xs, ws⟩ :: τ) H := by
  obtain ⟨F, fp, s, r, turn, _⟩ := h.top
  have r := RpL.one.mp r
  simp only [Rp] at r
  obtain ⟨a, ws, rfl, q, r⟩ := r
  exact ⟨a, ws, rfl, q, r.len, turn _ _ _ fp r (List.Sublist.refl _)⟩
/-- one item of what stands on top -/
theorem I.pick {x : T} {j : Nat} (h : I K H0 F0 ρ σ (⟨o, ts, vs⟩ :: τ) H) (e : ts[j]? = some x) : ∃ v, vs[j]? = some v ∧ I K H0 F0 ρ σ (g1 o x v :: τ) H := by
  obtain ⟨F, fp, s, r, turn, _⟩ := h.top
  obtain ⟨v, l, f, q, ev, rx, ef⟩ := RpL.get r e
  exact ⟨v, ev, turn _ _ _ f (RpL.one.mpr rx) (by rw [ef]; exact (List.sublist_append_left _ _).trans (List.sublist_append_right _ _))⟩
/-- plain values -/
theorem I.isInt {i : Int} (h : I K H0 F0 ρ σ (g1 o (.int i) v :: τ) H) : v = .int i := by
  obtain ⟨F, fp, s, r, _⟩ := h.top
  have r := RpL.one.mp r
  simp only [Rp] at r
  exact r.1
theorem I.isBl {b : Bool} (h : I K H0 F0 ρ σ (g1 o (.bl b) v :: τ) H) : v = .bl b := by
  obtain ⟨F, fp, s, r, _⟩ := h.top
  have r := RpL.one.mp r
  simp only [Rp] at r
  exact r.1
theorem I.isNon (h : I K H0 F0 ρ σ (g1 o .non v :: τ) H) : v = .non := by
  obtain ⟨F, fp, s, r, _⟩ := h.top
  have r := RpL.one.mp r
  simp only [Rp] at r
  exact r.1
theorem I.isStr {x : List Nat} (h : I K H0 F0 ρ σ (g1 o (.str x) v :: τ) H) : v = .str ⟨x.toArray⟩ ∧ Ascii x := by
  obtain ⟨F, fp, s, r, _⟩ := h.top
  have r := RpL.one.mp r
  simp only [Rp] at r
  exact ⟨r.1, r.2.2⟩
theorem I.int (h : I K H0 F0 ρ σ τ H) (i : Int) : I K H0 F0 ρ σ (g1 .full (.int i) (.int i) :: τ) H := h.push fun F s => RpL.one.mpr (by simp [Rp])
theorem I.bl (h : I K H0 F0 ρ σ τ H) (b : Bool) : I K H0 F0 ρ σ (g1 .full (.bl b) (.bl b) :: τ) H := h.push fun F s => RpL.one.mpr (by simp [Rp])
theorem I.non (h : I K H0 F0 ρ σ τ H) : I K H0 F0 ρ σ (g1 .full .non .non :: τ) H := h.push fun F s => RpL.one.mpr (by simp [Rp])
theorem I.str (h : I K H0 F0 ρ σ τ H) {x : List Nat} (a : Ascii x) : I K H0 F0 ρ σ (g1 .full (.str x) (.str ⟨x.toArray⟩) :: τ) H := h.push fun F s => RpL.one.mpr (by simp [Rp, a])
theorem I.nil (h : I K H0 F0 ρ σ τ H) : I K H0 F0 ρ σ (⟨o, [], []⟩ :: τ) H := h.push fun F s => by simp only [RpL]
end
end Ev
namespace Ev
open PySem PySem.Spec PyProof.Rows L2
def S8 (x : List Nat) : Str := ⟨x.toArray⟩
def BO.op : BO → Operator
  | .add => .Add | .sub => .Sub | .mul => .Mult | .fdiv => .FloorDiv | .mod => .Mod | .pow => .Pow
def CO.op : CO → CmpOp
  | .eq => .Eq | .ne => .NotEq | .lt => .Lt | .le => .LtE | .gt => .Gt | .ge => .GtE | .is => .Is | .isn => .IsNot | .mem => .In | .nmem => .NotIn
def BF.nm : BF → Str
  | .len => "len" | .abs => "abs" | .int => "int" | .bool => "bool" | .str => "str" | .list => "list" | .tuple => "tuple" | .sum => "sum" | .any => "any" | .all => "all" | .gcd => "gcd"
  | .max2 => "max" | .min2 => "min" | .max => "max" | .min => "min" | .sorted => "sorted" | .ord => "ord" | .chr => "chr"
def CT.nm : CT → Str
  | .int => "int" | .bool => "bool" | .str => "str" | .list => "list" | .tuple => "tuple"
def MF.nm : MF → Str
  | .sindex => "index" | .join => "join" | .split1 => "split" | .lindex => "index" | .scount => "count" | .startswith => "startswith" | .endswith => "endswith"
def visB (sc : Scope) (x : Str) : Bool := match sc.names.lookup x with
  | some .local => true
  | some .cell => true
  | some .free => true
  | _ => false
def locB (sc : Scope) (x : Str) : Bool := match sc.names.lookup x with
  | some .local => true
  | some .cell => true
  | _ => false
def glB (sc : Scope) (x : Str) : Bool := match sc.names.lookup x with
  | some .globalImplicit => true
  | _ => false
def dunB (x : Str) : Bool := (x == ("__debug__" : Str)) || (x == ("__classdict__" : Str)) || decide (x = ("__name__" : Str))
def ascB (s : List Nat) : Bool := decide (s.length ≤ sizeLine) && s.all fun c => decide (c < 128)
/-- a name of slot i -/
def nmB (N : List Str) (sc : Scope) (i : Nat) (x : Str) : Bool := decide (N[i]? = some x) && visB sc x && !dunB x
/-- a global name -/
def gnB (sc : Scope) (x y : Str) : Bool := decide (x = y) && glB sc y && !dunB y
mutual
def mG (N : List Str) (sc : Scope) : Tg → Expr → Bool
  | .nm i, pe => match pe with
    | .Name x _ => decide (N[i]? = some x) && locB sc x
    | _ => false
  | .tp ts, pe => match pe with
    | .Tuple ps _ _ => mGs N sc ts ps
    | _ => false
def mGs (N : List Str) (sc : Scope) : List Tg → List Expr → Bool
  | [], pes => match pes with
    | [] => true
    | _ => false
  | t :: ts, pes => match pes with
    | p :: ps => mG N sc t p && mGs N sc ts ps
    | _ => false
end
mutual
def tgIn (own : List Nat) : Tg → Bool
  | .nm i => own.contains i
  | .tp ts => tgsIn own ts
def tgsIn (own : List Nat) : List Tg → Bool
  | [] => true
  | t :: ts => tgIn own t && tgsIn own ts
end
def E.two : E → Bool
  | .zip _ _ => true
  | .enum _ => true
  | _ => false
def Tg.isTp : Tg → Bool
  | .tp _ => true
  | _ => false
section
variable (U : BF → Bool) (N : List Str)
mutual
def mE : Scope → E → Expr → Bool
  | _, .int i, pe => match pe with
    | .Constant (.int j) _ _ => decide (i = j)
    | _ => false
  | _, .bl i, pe => match pe with
    | .Constant (.bool j) _ _ => decide (i = j)
    | _ => false
  | _, .non, pe => match pe with
    | .Constant .none _ _ => true
    | _ => false
  | _, .str s, pe => match pe with
    | .Constant (.str x) _ _ => decide (x = S8 s) && ascB s
    | _ => false
  | sc, .var i, pe => match pe with
    | .Name x _ => nmB N sc i x
    | _ => false
  | sc, .mov i, pe => match pe with
    | .Name x _ => nmB N sc i x
    | _ => false
  | sc, .glob g, pe => match pe with
    | .Name x _ => gnB sc (S8 g) x
    | _ => false
  | sc, .bin op a b, pe => match pe with
    | .BinOp pa pop pb _ => decide (pop = op.op) && mE sc a pa && mE sc b pb
    | _ => false
  | sc, .neg a, pe => match pe with
    | .UnaryOp .USub pa _ => mE sc a pa
    | _ => false
  | sc, .notv a, pe => match pe with
    | .UnaryOp .Not pa _ => mE sc a pa
    | _ => false
  | sc, .cmp op a b, pe => match pe with
    | .Compare pa [pop] [pb] _ => decide (pop = op.op) && mE sc a pa && mE sc b pb
    | _ => false
  | sc, .chain op op' a b c, pe => match pe with
    | .Compare pa [pop, pop'] [pb, pc] _ => decide (pop = op.op) && decide (pop' = op'.op) && mE sc a pa && mE sc b pb && mE sc c pc
    | _ => false
  | sc, .andv es, pe => match pe with
    | .BoolOp .And ps _ => mEs sc es ps
    | _ => false
  | sc, .orv es, pe => match pe with
    | .BoolOp .Or ps _ => mEs sc es ps
    | _ => false
  | sc, .ife c a b, pe => match pe with
    | .IfExp pc pa pb _ => mE sc c pc && mE sc a pa && mE sc b pb
    | _ => false
  | sc, .tup es, pe => match pe with
    | .Tuple ps _ _ => mEs sc es ps
    | _ => false
  | sc, .lst es, pe => match pe with
    | .List ps _ => mEs sc es ps
    | _ => false
  | sc, .ix a i, pe => match pe with
    | .Subscript pa pi _ => mE sc a pa && mE sc i pi
    | _ => false
  | sc, .sl a lo hi, pe => match pe with
    | .Subscript pa (.Slice pl ph none _) _ => mE sc a pa && mEs sc lo pl.toList && mEs sc hi ph.toList
    | _ => false
  | sc, .rev a, pe => match pe with
    | .Subscript pa (.Slice none none (some (.UnaryOp .USub (.Constant (.int 1) _ _) _)) _) _ => mE sc a pa
    | _ => false
  | sc, .call f es, pe => match pe with
    | .Call (.Name x _) (p :: ps) [] _ => gnB sc (S8 f) x && mEs sc es (p :: ps)
    | _ => false
  | sc, .blt f es, pe => match pe with
    | .Call (.Name x _) (p :: ps) [] _ => gnB sc f.nm x && U f && mEs sc es (p :: ps)
    | _ => false
  | sc, .isi a c, pe => match pe with
    | .Call (.Name x _) [pa, .Name y _] [] _ => gnB sc "isinstance" x && gnB sc c.nm y && mE sc a pa
    | _ => false
  | sc, .meth f o es, pe => match pe with
    | .Call (.Attribute po m apos) [p] [] cpos => decide (m = f.nm) && (apos.endLine == cpos.line) && mE sc o po && mEs sc es [p]
    | _ => false
  | sc, .lc elt tg it ifs own, pe => match pe with
    | .ListComp pelt [⟨ptg, pit, pifs, 0⟩] scope _ => blkC N sc scope (own.filterMap fun i => (N[i]?).map fun x => (x, i)) && decide ((own.filterMap fun i => (N[i]?).map fun x => (x, i)).map (·.2) = own) &&
      (!it.two || tg.isTp) && mE sc it pit && mG N scope tg ptg && tgIn own tg && mEs (relS scope sc) ifs pifs && mE (relS scope sc) elt pelt && decide (pifs.length ≤ 1)
    | _ => false
  | _, .lc2 _ _ _ _ _ _ _ _ _, _ => false
  | sc, .rng es, pe => match pe with
    | .Call (.Name x _) (p :: ps) [] _ => gnB sc "range" x && mEs sc es (p :: ps)
    | _ => false
  | sc, .zip a b, pe => match pe with
    | .Call (.Name x _) [pa, pb] [] _ => gnB sc "zip" x && mE sc a pa && mE sc b pb
    | _ => false
  | sc, .enum a, pe => match pe with
    | .Call (.Name x _) [pa] [] _ => gnB sc "enumerate" x && mE sc a pa
    | _ => false
  | sc, .revd a, pe => match pe with
    | .Call (.Name x _) [pa] [] _ => gnB sc "reversed" x && mE sc a pa
    | _ => false
def mEs : Scope → List E → List Expr → Bool
  | _, [], pes => match pes with
    | [] => true
    | _ => false
  | sc, e :: es, pes => match pes with
    | p :: ps => mE sc e p && mEs sc es ps
    | _ => false
end
end
/-- what is known of the module: the names of built-ins that are used, the constants, the defs -/
structure MOk (K : PySem.W.Frag) (mg : Str → Option Value) (U : BF → Bool) (G : List Nat → Option T) : Prop where
  blt : ∀ f, U f = true → f ≠ .gcd → mg f.nm = none
  gcd : U .gcd = true → mg "gcd" = some (.builtin "math.gcd")
  isi : mg "isinstance" = none
  cls : ∀ c : CT, mg c.nm = none
  rng : mg "range" = none
  zip : mg "zip" = none
  enm : mg "enumerate" = none
  rvd : mg "reversed" = none
  glob : ∀ x t, G x = some t → ∃ u v, mg (S8 x) = some u ∧ RelV v u ∧ ∀ F H, Rp K F H .cold t v []
/-- the promise of a def: what the evaluator says of it -/
def spC (K : PySem.W.Frag) (np : Nat) (C : List T → Option (T × Own)) : Sp := fun vs H Q _ => vs.length = np ∧ ∃ F ts t o, Same F H ∧ RpL K F H .cold ts vs [] ∧ C ts = some (t, o) ∧
  ∀ v H', I K H F [] [] [g1 o t v] H' → Q v H'
structure COk (P : Program) (w : World) (K : PySem.W.Frag) (mg : Str → Option Value) (base : Heap) (k : Nat) (C : List Nat → List T → Option (T × Own)) : Prop where
  fn : ∀ f, (∃ ts r, C f ts = some r) → ∃ a fd ps, mg (S8 f) = some (.ref a) ∧ PySem.W.keepIn K (.ref a) = true ∧ Binds K fd ps [] ∧ FnOk P w K mg base CX0 k a fd ps (spC K ps.length (C f)) ∧ ∀ ts r, C f ts = some r → ts.length = ps.length
  nv : ∀ f ts r, C f ts = some r → r.2.isView = false
structure XOk (P : Program) (w : World) (K : PySem.W.Frag) (mg : Str → Option Value) (base : Heap) (k : Nat) (N : List Str) (sc : Scope) (X : Cx) : Prop where
  prog : X.prog = P
  w_ : X.w = w
  K_ : X.K = K
  mg_ : X.mg = mg
  base_ : X.base = base
  N_ : X.N = N
  nd : N.Nodup
  sc_ : X.env.scope = sc
  calm : X.calm = true
  room : Room k X.A
/-- nothing is only seen -/
def NoV (τ : List Gp) : Prop := ∀ g ∈ τ, g.o.isView = false
section
variable (P : Program) (w : World) (K : PySem.W.Frag) (mg : Str → Option Value) (base : Heap) (k : Nat) (N : List Str) (sc : Scope)
/-- an expression's value -/
def SV (d : Den) (pe : Expr) : Prop := ∀ X, XOk P w K mg base k N sc X → ∃ t, PE X pe t ∧ ∀ H0 F0 ρ σ τ H r Q, I K H0 F0 ρ σ τ H → (d.c = true → NoV τ) → d.v ρ = some r →
  (∀ v H', I K H0 F0 r.ρ σ (g1 r.o r.t v :: τ) H' → (∀ i, r.o = .view i → σ[i]? = some (some v)) → Q v H') → t σ H Q
/-- its truth -/
def ST (d : Den) (pe : Expr) : Prop := ∀ X, XOk P w K mg base k N sc X → ∃ t, PT X pe t ∧ ∀ H0 F0 ρ σ τ H r Q, I K H0 F0 ρ σ τ H → (d.c = true → NoV τ) → d.t ρ = some r →
  (∀ H', I K H0 F0 r.2 σ τ H' → Q r.1 H') → t σ H Q
/-- a walk over the trees xs; g: what must stand meanwhile -/
structure Wk (K : PySem.W.Frag) (xs : List T) (J : It) (g : Gp) : Prop where
  cold : g.o = .cold
  go : ∀ i H0 F0 ρ σ τ H, I K H0 F0 ρ σ (g :: τ) H → i < xs.length → J.go i H
  yld : ∀ i x H0 F0 ρ σ τ H v H', I K H0 F0 ρ σ (g :: τ) H → xs[i]? = some x → J.yld i H v H' → I K H0 F0 ρ σ (g1 .cold x v :: g :: τ) H'
  stop : ∀ i H0 F0 ρ σ τ H, I K H0 F0 ρ σ (g :: τ) H → xs.length ≤ i → J.stop i H
/-- what it walks -/
def SI (d : Den) (tg pe : Expr) : Prop := ∀ X, XOk P w K mg base k N sc X → ∃ t, PI X tg pe t ∧ ∀ H0 F0 ρ σ τ H r R, I K H0 F0 ρ σ τ H → (d.c = true → NoV τ) → d.i ρ = some r →
  (∀ J g H', Wk K r.1 J g → I K H0 F0 r.2 σ (g :: τ) H' → R J H') → t σ H R
end
/-- forms that need no care -/
structure Plain (pe : Expr) : Prop where
  star : ∀ es env, starEach (pe :: es) env = (false, eval pe env) :: starEach es env
  fsi : ∀ env x, foldedSetIterable pe env x = pure x
  ix : PlainIx pe
  att : ∀ nm env whole, attributeBase pe nm env whole = whole
  mark : ∀ op, behindInMarks op pe = false
/-- its test is its value's truth -/
def TruE (pe : Expr) : Prop := ∀ env whole, isTrue pe env whole = (do let v ← whole; standAt pe.pos; holding [v] (truthy v))
def NoLc (pe : Expr) : Prop := ∀ tg line env, swapsWith pe tg line env = pure false
end Ev
namespace Ev
open PySem PySem.Spec PyProof.Rows L2
theorem obind {α β : Type} {x : Option α} {f : α → Option β} {b : β} (h : x.bind f = some b) : ∃ a, x = some a ∧ f a = some b := Option.bind_eq_some_iff.mp h
theorem omap {α β : Type} {x : Option α} {f : α → β} {b : β} (h : x.map f = some b) : ∃ a, x = some a ∧ f a = b := Option.map_eq_some_iff.mp h
theorem visOf {sc : Scope} {x : Str} (h : visB sc x = true) : Vis sc x := by
  unfold visB at h
  split at h
  · rename_i e; exact .inl e
  · rename_i e; exact .inr (.inl e)
  · rename_i e; exact .inr (.inr e)
  · cases h
theorem locOf {sc : Scope} {x : Str} (h : locB sc x = true) : Loc sc x := by
  unfold locB at h
  split at h
  · rename_i e; exact .inl e
  · rename_i e; exact .inr e
  · cases h
theorem dunOf {x : Str} (h : dunB x = false) : (x == ("__debug__" : Str)) = false ∧ (x == ("__classdict__" : Str)) = false ∧ x ≠ "__name__" := by
  unfold dunB at h
  simp only [Bool.or_eq_false_iff, decide_eq_false_iff_not] at h
  exact ⟨h.1.1, h.1.2, h.2⟩
theorem nmOf {N : List Str} {sc : Scope} {i : Nat} {x : Str} (h : nmB N sc i x = true) : N[i]? = some x ∧ Vis sc x ∧ (x == ("__debug__" : Str)) = false ∧ (x == ("__classdict__" : Str)) = false := by
  unfold nmB at h
  simp only [Bool.and_eq_true, decide_eq_true_eq, Bool.not_eq_true'] at h
  obtain ⟨⟨h1, h2⟩, h3⟩ := h
  exact ⟨h1, visOf h2, (dunOf h3).1, (dunOf h3).2.1⟩
theorem gnOf {sc : Scope} {x y : Str} (h : gnB sc x y = true) : x = y ∧ sc.names.lookup y = some .globalImplicit ∧ (y == ("__debug__" : Str)) = false ∧ y ≠ "__name__" := by
  unfold gnB glB at h
  simp only [Bool.and_eq_true, decide_eq_true_eq, Bool.not_eq_true'] at h
  obtain ⟨⟨h1, h2⟩, h3⟩ := h
  refine ⟨h1, ?_, (dunOf h3).1, (dunOf h3).2.2⟩
  split at h2
  · rename_i e; exact e
  · cases h2
section
variable {P : Program} {w : World} {K : PySem.W.Frag} {mg : Str → Option Value} {base : Heap} {k : Nat} {N : List Str} {sc : Scope} {U : BF → Bool} {G : List Nat → Option T} {C : List Nat → List T → Option (T × Own)}
variable {X : Cx} {H0 F0 H H' : Hp} {ρ ρ' : Env} {σ : L2.St} {τ : List Gp} {t u y : T} {o q : Own} {va vb v : V} {r : R} {Q : VK}
theorem XOk.gl (ok : XOk P w K mg base k N sc X) {x : Str} (h : sc.names.lookup x = some .globalImplicit) : Gl X x := by
  show X.env.scope.names.lookup x = _
  rw [ok.sc_]; exact h
theorem NoV.cons {g : Gp} (h : g.o.isView = false) (n : NoV τ) : NoV (g :: τ) := fun x m => by
  rcases List.mem_cons.mp m with rfl | m
  · exact h
  · exact n x m
/-- a value ahead of a comprehension is shared first -/
theorem I.vo {c : Bool} {r0 : R} (h : I K H0 F0 r0.ρ σ (g1 r0.o r0.t v :: τ) H) (e : vo c r0 = some r) (lk : ∀ i, r0.o = .view i → σ[i]? = some (some v)) : I K H0 F0 r.ρ σ (g1 r.o r.t v :: τ) H ∧ (∀ i, r.o = .view i → σ[i]? = some (some v)) ∧ (c = true → r.o.isView = false) := by
  unfold Ev.vo at e
  split at e
  · obtain ⟨nv, h'⟩ := h.val e lk
    exact ⟨h', (fun i z => by rw [z] at nv; cases nv), fun _ => nv⟩
  · rename_i hc
    cases e
    exact ⟨h, lk, fun z => absurd z hc⟩
theorem sv_const {d : Den} {pe : Expr} {v : V} {t : T} (hp : ∀ X, PE X pe (tC v)) (hd : ∀ ρ, d.v ρ = some ⟨t, .full, ρ⟩) (hr : ∀ F H, Rp K F H .full t v []) : SV P w K mg base k N sc d pe := fun X ok =>
  ⟨tC v, hp X, fun H0 F0 ρ σ τ H r Q hI hv he q => by
    rw [hd] at he
    cases he
    exact q v H (hI.push fun F s => RpL.one.mpr (hr F H)) (fun _ e => by cases e)⟩
theorem sv_var {i : Nat} {x : Str} {pos : Pos} (h : nmB N sc i x = true) : SV P w K mg base k N sc (den G C (.var i)) (.Name x pos) := fun X ok => by
  obtain ⟨h1, h2, h3, h4⟩ := nmOf h
  refine ⟨tVar i, pe_var (by rw [ok.N_]; exact h1) (by rw [ok.sc_]; exact h2) h3 h4, fun H0 F0 ρ σ τ H r Q hI hv he q => ?_⟩
  simp only [den, valD] at he
  split at he
  · rename_i t o e
    obtain ⟨v, ev, nv, hvw, _, hn⟩ := hI.look e
    refine ⟨v, ev, ?_⟩
    split at he
    · rename_i n
      cases he
      exact q v H (hn n) (fun _ e => by cases e)
    · cases he
      exact q v H (hvw i) (fun j e => by cases e; exact ev)
  · cases he
theorem sv_mov {i : Nat} {x : Str} {pos : Pos} (h : nmB N sc i x = true) : SV P w K mg base k N sc (den G C (.mov i)) (.Name x pos) := fun X ok => by
  obtain ⟨h1, h2, h3, h4⟩ := nmOf h
  refine ⟨tVar i, pe_var (by rw [ok.N_]; exact h1) (by rw [ok.sc_]; exact h2) h3 h4, fun H0 F0 ρ σ τ H r Q hI hv he q => ?_⟩
  simp only [den, valD] at he
  split at he
  · rename_i t o e
    split at he
    · rename_i n
      cases he
      obtain ⟨v, ev, nv, hvw, _, hn⟩ := hI.look e
      exact ⟨v, ev, q v H (hn n) (fun _ e => by cases e)⟩
    · cases he
      obtain ⟨v, ev, nv, hmv⟩ := hI.mov e
      exact ⟨v, ev, q v H hmv (fun j e => by
        have e : o = .view j := e
        rw [e] at nv; cases nv)⟩
  · cases he
theorem mk_view {t : T} {o : Own} {ρ : Env} (h : o.isView = false) : (mk t o ρ).o.isView = false := by
  unfold mk; split
  · rfl
  · exact h
theorem nolink {o : Own} {σ : L2.St} {v : V} (h : o.isView = false) : ∀ i, o = .view i → σ[i]? = some (some v) := fun i e => by rw [e] at h; cases h
theorem sv_glob {g : List Nat} {x : Str} {pos : Pos} (M : MOk K mg U G) (h : gnB sc (S8 g) x = true) : SV P w K mg base k N sc (den G C (.glob g)) (.Name x pos) := fun X ok => by
  obtain ⟨rfl, h2, h3, h4⟩ := gnOf h
  cases e : G g with
  | none => exact ⟨fun _ _ _ => False, ⟨fun _ _ _ _ _ _ z => z.elim⟩, fun H0 F0 ρ σ τ H r Q hI hv he q => by simp [den, valD, e] at he⟩
  | some t =>
    obtain ⟨u, v, e1, e2, e3⟩ := M.glob g t e
    refine ⟨tC v, pe_glob (ok.gl h2) (by rw [ok.mg_]; exact e1) e2 h3, fun H0 F0 ρ σ τ H r Q hI hv he q => ?_⟩
    simp only [den, valD, e, Option.map_some, Option.some.injEq] at he
    subst he
    exact q v H (I.mkR (hI.push fun F s => RpL.one.mpr (e3 F H))) (nolink (mk_view rfl))
theorem I.nlG {ts : List T} {vs : List V} {o o' : Own} (h : I K H0 F0 ρ σ (⟨o, ts, vs⟩ :: τ) H) (n : nlL ts = true) : I K H0 F0 ρ σ (⟨o', ts, vs⟩ :: τ) H :=
  h.map fun F fp s q => ⟨[], (q.nl n).2 _ _, List.nil_sublist _⟩
theorem nlL_append : ∀ {xs ys : List T}, nlL (xs ++ ys) = (nlL xs && nlL ys)
  | [], ys => by simp [nlL]
  | x :: xs, ys => by simp [nlL, nlL_append (xs := xs), Bool.and_assoc]
/-- the items of two lists together, from the second one on top -/
theorem I.kids2L {xs ys : List T} {c : Own} (hc : kidR c = c) (h : I K H0 F0 ρ σ (g1 c (.lst ys) vb :: g1 c (.lst xs) va :: τ) H) : ∃ a b ws zs, va = .ref a ∧ vb = .ref b ∧ Rd H a (.lst ws) ∧ Rd H b (.lst zs) ∧ xs.length = ws.length ∧ ys.length = zs.length ∧
    I K H0 F0 ρ σ (⟨c, xs ++ ys, ws ++ zs⟩ :: τ) H := by
  obtain ⟨b, zs, eb, rb, lb, h1, _⟩ := h.kidsL
  obtain ⟨a, ws, ea, ra, la, h2, _⟩ := h1.swap.kidsL
  rw [hc] at h2
  exact ⟨a, b, ws, zs, ea, eb, ra, rb, la, lb, h2.join⟩
theorem I.kids2T {xs ys : List T} {c : Own} (hc : kidR c = c) (h : I K H0 F0 ρ σ (g1 c (.tup ys) vb :: g1 c (.tup xs) va :: τ) H) : ∃ a b ws zs, va = .ref a ∧ vb = .ref b ∧ SqT K H a ws ∧ SqT K H b zs ∧ xs.length = ws.length ∧ ys.length = zs.length ∧
    I K H0 F0 ρ σ (⟨c, xs ++ ys, ws ++ zs⟩ :: τ) H := by
  obtain ⟨b, zs, eb, rb, lb, h1⟩ := h.kidsT
  obtain ⟨a, ws, ea, ra, la, h2⟩ := h1.swap.kidsT
  rw [hc] at h2
  exact ⟨a, b, ws, zs, ea, eb, ra, rb, la, lb, h2.join⟩
def rCatQ : R2 := fun x y H Q => ∃ l b xs zs, x = .ref l ∧ y = .ref b ∧ Rd H l (.lst xs) ∧ Rd H b (.lst zs) ∧ xs.length + zs.length ≤ sizeLine ∧ ∀ p, H p = none → Q (.ref p) (upd H p (.lst (xs ++ zs)))
theorem rd_lst {X : Cx} {pins : List (Addr × Obj)} {σ : L2.St} {H : Hp} {s : Shared} {l : Addr} {xs : List V} (I : Inv X pins σ H s) (hH : Rd H l (.lst xs)) : xs.length ≤ sizeLine ∧ ∃ (its : List Value) (n : Nat), Vals xs its ∧ xs.length = its.length ∧ s.heap.get? l = some { cls := .type "list", data := .seq its.toArray n } := by
  obtain ⟨z, its, n, r, e⟩ := hH.ok I.hok
  exact ⟨z, its, n, r, r.length, e⟩
theorem op_catQ : OpR X (binaryOp .Add) rCatQ := by
  intro pins s σ H x y v u Q I rx ry h
  obtain ⟨l, b, xs, zs, rfl, rfl, hH, hB, hz, q⟩ := h
  cases rx
  cases ry
  obtain ⟨z, its, n, r, hl, e⟩ := rd_lst I hH
  obtain ⟨z2, its2, n2, r2, hl2, e2⟩ := rd_lst I hB
  refine PySem.P.add_list e e2 ?_ (by rw [List.size_toArray, List.size_toArray]; omega)
  have ea : its.toArray ++ its2.toArray = (its ++ its2).toArray := by simp
  rw [ea]
  exact ⟨.ref _, _, I.lnew (t' := s.toks) (r.append r2) (by rw [List.length_append]; omega), rfl, q _ I.fresh⟩
theorem RpL.reps {F : Hp} {xs : List T} {vs : List V} {c : Own} (hc : c = .cold ∨ c.isView = true) (h : RpL K F H c xs vs []) : ∀ n : Nat, RpL K F H c (List.replicate n xs).flatten (List.replicate n vs).flatten []
  | 0 => by simp only [List.replicate_zero, List.flatten_nil, RpL]
  | n + 1 => by
    simp only [List.replicate_succ, List.flatten_cons]
    exact RpL.append h (RpL.reps hc h n)
end
end Ev
namespace Ev
open PySem PySem.Spec PyProof.Rows L2
section
variable {P : Program} {w : World} {K : PySem.W.Frag} {mg : Str → Option Value} {base : Heap} {k : Nat} {N : List Str} {sc : Scope} {U : BF → Bool} {G : List Nat → Option T} {C : List Nat → List T → Option (T × Own)}
variable {X : Cx} {H0 F0 H H' : Hp} {ρ ρ' : Env} {σ : L2.St} {τ : List Gp} {t u y : T} {o q : Own} {va vb v : V} {r : R} {Q : VK}
def rStr : R2 := fun x y H Q => ∃ i j, x = .str i ∧ y = .str j ∧ i.length + j.length ≤ sizeLine ∧ Q (.str (i ++ j)) H
def rB (K : PySem.W.Frag) : BO → R2
  | .add => fun x y H Q => (rI0 fun i j => .int (i + j)) x y H Q ∨ rStr x y H Q ∨ rCatQ x y H Q ∨ rCatT K x y H Q
  | .sub => rI0 fun i j => .int (i - j)
  | .mul => fun x y H Q => (rI (fun i j => CMulW i j ∨ CMul i j) fun i j => .int (i * j)) x y H Q ∨ rRep x y H Q
  | .fdiv => fun x y H Q => (rI CDivW fun i j => .int (i / j)) x y H Q ∨ (rI CDivN fun i j => .int (i.fdiv j)) x y H Q
  | .mod => fun x y H Q => (rI (fun _ j => 0 < j) fun i j => .int (i % j)) x y H Q ∨ (rI (fun _ j => j ≠ 0) fun i j => .int (i.fmod j)) x y H Q
  | .pow => rI CPow fun i j => .int (i ^ j.toNat)
theorem opB (op : BO) : OpR X (binaryOp op.op) (rB X.K op) := by
  cases op with
  | add => exact op_add.or (op_add_str.or (op_catQ.or op_catT))
  | sub => exact op_sub
  | mul => exact (opI fun _ _ _ _ _ _ _ hc q => mul_int q (hc.elim CMulW.ok CMul.ok)).or op_rep
  | fdiv => exact op_fdivW.or op_fdivN
  | mod => exact op_mod.or op_modN
  | pow => exact op_pow
/-- an answer that may share the items of what it was made of: either nothing is shared, or both are shared from now on -/
theorem share2 {g : T → T → Option T} (h : I K H0 F0 ρ σ (g1 q u vb :: g1 o t va :: τ) H) (he : shareR2 g t o u q ρ = some r) (la : ∀ i, o = .view i → σ[i]? = some (some va)) (lb : ∀ i, q = .view i → σ[i]? = some (some vb)) :
    (∃ y, g t u = some y ∧ r = ⟨y, .full, ρ⟩ ∧ (y.nl = true ∨ ∃ ys, y = .lst ys ∧ nlL ys = true)) ∨
    (∃ t' u', (∃ y, g t u = some y ∧ y.nl = false ∧ ∀ ys, y = .lst ys → nlL ys = false) ∧ g t' u' = some r.t ∧ ((∃ zs, r.t = .lst zs ∧ r.o = .shal) ∨ ∃ zs, r.t = .tup zs ∧ r.o = .cold) ∧ I K H0 F0 r.ρ σ (g1 .cold u' vb :: g1 .cold t' va :: τ) H) := by
  unfold shareR2 at he
  obtain ⟨y, ey, he⟩ := obind he
  have two : ∀ {x x' : T × Env}, reT t o ρ = some x → reT u q x.2 = some x' → I K H0 F0 x'.2 σ (g1 .cold x'.1 vb :: g1 .cold x.1 va :: τ) H := fun e1 e2 => by
    have h1 := h.swap.re e1 la
    exact h1.swap.re e2 lb
  split at he
  · rename_i n
    cases he
    exact .inl ⟨y, ey, rfl, .inl n⟩
  · rename_i n0
    cases y with
    | lst ys =>
      dsimp only at he
      split at he
      · rename_i n
        cases he
        exact .inl ⟨_, ey, rfl, .inr ⟨ys, rfl, n⟩⟩
      · rename_i n
        obtain ⟨x, e1, he⟩ := obind he
        obtain ⟨x', e2, he⟩ := obind he
        obtain ⟨z, e3, he⟩ := obind he
        cases z with
        | lst zs =>
          cases he
          exact .inr ⟨x.1, x'.1, ⟨_, ey, rfl, fun ys' e => by cases e; simpa using n⟩, e3, .inl ⟨zs, rfl, rfl⟩, two e1 e2⟩
        | _ => cases he
    | _ =>
      dsimp only at he
      obtain ⟨x, e1, he⟩ := obind he
      obtain ⟨x', e2, he⟩ := obind he
      obtain ⟨z, e3, he⟩ := obind he
      cases z with
      | tup zs =>
        cases he
        exact .inr ⟨x.1, x'.1, ⟨_, ey, by simpa using n0, fun ys' e => by cases e⟩, e3, .inr ⟨zs, rfl, rfl⟩, two e1 e2⟩
      | _ => cases he
theorem share1 {g : T → Option T} (h : I K H0 F0 ρ σ (g1 o t va :: τ) H) (he : shareR1 g t o ρ = some r) (la : ∀ i, o = .view i → σ[i]? = some (some va)) :
    (∃ y, g t = some y ∧ r = ⟨y, .full, ρ⟩ ∧ (y.nl = true ∨ ∃ ys, y = .lst ys ∧ nlL ys = true)) ∨
    (∃ t', g t' = some r.t ∧ ((∃ zs, r.t = .lst zs ∧ r.o = .shal) ∨ ∃ zs, r.t = .tup zs ∧ r.o = .cold) ∧ I K H0 F0 r.ρ σ (g1 .cold t' va :: τ) H) := by
  unfold shareR1 at he
  obtain ⟨y, ey, he⟩ := obind he
  split at he
  · rename_i n
    cases he
    exact .inl ⟨y, ey, rfl, .inl n⟩
  · cases y with
    | lst ys =>
      dsimp only at he
      split at he
      · rename_i n
        cases he
        exact .inl ⟨_, ey, rfl, .inr ⟨ys, rfl, n⟩⟩
      · obtain ⟨x, e1, he⟩ := obind he
        obtain ⟨z, e3, he⟩ := obind he
        cases z with
        | lst zs =>
          cases he
          exact .inr ⟨x.1, e3, .inl ⟨zs, rfl, rfl⟩, h.re e1 la⟩
        | _ => cases he
    | _ =>
      dsimp only at he
      obtain ⟨x, e1, he⟩ := obind he
      obtain ⟨z, e3, he⟩ := obind he
      cases z with
      | tup zs =>
        cases he
        exact .inr ⟨x.1, e3, .inr ⟨zs, rfl, rfl⟩, h.re e1 la⟩
      | _ => cases he
/-- a new list under a claim of its items -/
theorem I.fin {p : Addr} {ts : List T} {vs : List V} {c : Own} (h : I K H0 F0 ρ σ (⟨c, ts, vs⟩ :: τ) H) (hc : (c = .full ∧ o = .full) ∨ (c = .cold ∧ o = .shal)) (hp : H p = none) : I K H0 F0 ρ σ (g1 o (.lst ts) (.ref p) :: τ) (upd H p (.lst vs)) := by
  rcases hc with ⟨rfl, rfl⟩ | ⟨rfl, rfl⟩
  · exact h.newLst (.inl rfl) hp
  · exact h.newLst (.inr rfl) hp
theorem I.finT {p : Addr} {ts : List T} {vs : List V} {c : Own} (h : I K H0 F0 ρ σ (⟨c, ts, vs⟩ :: τ) H) (hc : (c = .full ∧ o = .full) ∨ (c = .cold ∧ o = .cold)) (hp : H p = none) : I K H0 F0 ρ σ (g1 o (.tup ts) (.ref p) :: τ) (upd H p (.tup vs)) := by
  rcases hc with ⟨rfl, rfl⟩ | ⟨rfl, rfl⟩
  · exact h.newTup (.inl rfl) hp
  · exact h.newTup (.inr rfl) hp
theorem ascii_append {x y : List Nat} (hx : Ascii x) (hy : Ascii y) (h : x.length + y.length ≤ sizeLine) : Ascii (x ++ y) :=
  ⟨by rw [List.length_append]; exact h, fun c m => (List.mem_append.mp m).elim (hx.2 c) (hy.2 c)⟩
theorem strApp (x y : List Nat) : (⟨x.toArray⟩ : Str) ++ ⟨y.toArray⟩ = ⟨(x ++ y).toArray⟩ := by
  show (⟨x.toArray ++ y.toArray⟩ : Str) = _
  simp
theorem RpL.allFull {F : Hp} {xs : List T} {vs : List V} {fp : List Addr} {o o' : Own} (n : nlL xs = true) (h : RpL K F H o xs vs fp) : RpL K F H o' xs vs [] := (h.nl n).2 _ _
/-- two groups on top whose items are without lists: as one, one's own -/
theorem I.joinNl {xs ys : List T} {ws zs : List V} {o' q' : Own} (h : I K H0 F0 ρ σ (⟨o', xs, ws⟩ :: ⟨q', ys, zs⟩ :: τ) H) (n : nlL (xs ++ ys) = true) : I K H0 F0 ρ σ (⟨.full, xs ++ ys, ws ++ zs⟩ :: τ) H := by
  rw [nlL_append, Bool.and_eq_true] at n
  exact ((I.nlG (o' := .full) h n.1).swap.nlG (o' := .full) n.2).swap.join
theorem nlL_flat {xs : List T} (h : nlL xs = true) : ∀ n : Nat, nlL (List.replicate n xs).flatten = true
  | 0 => by simp [nlL]
  | n + 1 => by simp [List.replicate_succ, nlL_append, h, nlL_flat h n]
theorem nlL_of_flat {xs : List T} : ∀ n : Nat, nlL (List.replicate (n + 1) xs).flatten = true → nlL xs = true
  | n, h => by
    simp only [List.replicate_succ, List.flatten_cons, nlL_append, Bool.and_eq_true] at h
    exact h.1
/-- a group's items again and again -/
theorem I.repG {xs : List T} {ws : List V} {c : Own} (hc : c = .cold ∨ nlL xs = true ) (n : Nat) (h : I K H0 F0 ρ σ (⟨c, xs, ws⟩ :: τ) H) : I K H0 F0 ρ σ (⟨c, (List.replicate n xs).flatten, (List.replicate n ws).flatten⟩ :: τ) H :=
  h.map fun F fp s q => by
    refine ⟨[], ?_, List.nil_sublist _⟩
    rcases hc with rfl | hc
    · have e := RpL.none_of (.inl rfl) q
      subst e
      exact RpL.reps (.inl rfl) q n
    · have q' : RpL K F H .cold xs ws [] := RpL.allFull hc q
      exact RpL.allFull (nlL_flat hc n) (RpL.reps (.inl rfl) q' n)
theorem catT_ok {xs ys : List T} {ws zs : List V} {a b : Addr} (hx : xs ≠ [] ∧ ys ≠ []) (hl : xs.length + ys.length ≤ sizeLine) (l1 : xs.length = ws.length) (l2 : ys.length = zs.length) (ra : SqT K H a ws) (rb : SqT K H b zs)
    (q : ∀ p, H p = none → Q (.ref p) (upd H p (.tup (ws ++ zs)))) : rCatT K (.ref a) (.ref b) H Q := by
  have nw : ws ≠ [] := fun e => hx.1 (by rw [e] at l1; simpa using l1)
  have nz : zs ≠ [] := fun e => hx.2 (by rw [e] at l2; simpa using l2)
  exact ⟨a, b, ws, zs, rfl, rfl, ra, rb, nw, by omega, fun e => absurd e nz, fun _ => q⟩
theorem mulNl {o : Own} (hr : repOk .mul t o = true) (e : binV .mul t u = some y) : y.nl = true ∨ ∃ ys, y = .lst ys ∧ nlL ys = true := by
  cases t <;> cases u <;> simp only [binV] at e <;> first | (cases e; done) | (split at e <;> cases e)
  · exact .inl rfl
  · refine .inr ⟨_, rfl, nlL_flat ?_ _⟩
    cases o <;> simp only [repOk] at hr <;> first | exact hr | cases hr
theorem bin_ok {op : BO} (h : I K H0 F0 ρ σ (g1 q u vb :: g1 o t va :: τ) H) (hr : repOk op t o = true) (he : shareR2 (binV op) t o u q ρ = some r) (la : ∀ i, o = .view i → σ[i]? = some (some va)) (lb : ∀ i, q = .view i → σ[i]? = some (some vb))
    (hq : ∀ v H', I K H0 F0 r.ρ σ (g1 r.o r.t v :: τ) H' → r.o.isView = false → Q v H') : rB K op va vb H Q := by
  have hs := share2 h he la lb
  -- plain answers
  have plainI : ∀ i : Int, r = ⟨.int i, .full, ρ⟩ → Q (.int i) H := fun i e => by subst e; exact hq _ _ (h.drop.drop.int i) rfl
  rcases hs with ⟨y, ey, er, hn⟩ | ⟨t', u', ⟨y0, ey0, n0, n1⟩, ey, hz, h'⟩
  · unfold binV at ey
    split at ey
    · cases ey
      rw [h.isInt, h.drop.isInt]
      exact .inl ⟨_, _, rfl, rfl, plainI _ er⟩
    · split at ey
      · rename_i hl
        cases ey
        obtain ⟨rfl, a1⟩ := h.isStr
        obtain ⟨rfl, a2⟩ := h.drop.isStr
        refine .inr (.inl ⟨_, _, rfl, rfl, by simpa [Str.length] using hl, ?_⟩)
        rw [strApp]
        subst er
        exact hq _ _ (h.drop.drop.str (ascii_append a2 a1 hl)) rfl
      · cases ey
    · split at ey
      · rename_i xs ys hl
        cases ey
        rcases hn with hn | ⟨zs, ez, hn⟩
        · simp [T.nl] at hn
        · cases ez
          obtain ⟨b, zs, eb, rb, lb', h1, _⟩ := h.kidsL
          obtain ⟨a, ws, ea, ra, la', h2, _⟩ := h1.swap.kidsL
          refine .inr (.inr (.inl ⟨a, b, ws, zs, ea, eb, ra, rb, by omega, fun p hp => ?_⟩))
          subst er
          exact hq _ _ ((h2.joinNl hn).fin (.inl ⟨rfl, rfl⟩) hp) rfl
      · cases ey
    · split at ey
      · rename_i xs ys hl
        cases ey
        rcases hn with hn | ⟨zs, ez, hn⟩
        · obtain ⟨b, zs, eb, rb, lb', h1⟩ := h.kidsT
          obtain ⟨a, ws, ea, ra, la', h2⟩ := h1.swap.kidsT
          subst ea eb er
          exact .inr (.inr (.inr (catT_ok hl.2 hl.1 la' lb' ra rb fun p hp => hq _ _ ((h2.joinNl (by simpa [T.nl] using hn)).finT (.inl ⟨rfl, rfl⟩) hp) rfl)))
        · cases ez
      · cases ey
    · cases ey
      rw [h.isInt, h.drop.isInt]
      exact ⟨_, _, rfl, rfl, plainI _ er⟩
    · split at ey
      · rename_i hl
        cases ey
        rw [h.isInt, h.drop.isInt]
        refine .inl ⟨_, _, rfl, rfl, ?_, plainI _ er⟩
        rcases hl with hl | hl | hl
        · exact .inl hl
        · exact .inr (.inl (by omega))
        · exact .inr (.inr (by omega))
      · cases ey
    · split at ey
      · rename_i xs kk hl
        cases ey
        rcases hn with hn | ⟨zs, ez, hn⟩
        · simp [T.nl] at hn
        · cases ez
          rw [h.isInt]
          obtain ⟨a, ws, ea, ra, la', h2, own⟩ := h.drop.kidsL
          have ho : o = .full ∨ o = .shal := by
            cases o <;> first | exact .inl rfl | exact .inr rfl | (simp [repOk] at hr)
          refine .inr ⟨a, kk, ws, ea, rfl, own ho, by omega, by omega, by rw [← la']; exact hl.2, fun p hp => ?_⟩
          subst er
          have hx : nlL xs = true := by
            rcases ho with rfl | rfl <;> simpa only [repOk] using hr
          exact hq _ _ (((I.nlG (o' := .full) h2 hx).repG (.inr hx) _).fin (.inl ⟨rfl, rfl⟩) hp) rfl
      · cases ey
    · split at ey
      · rename_i hl
        cases ey
        rw [h.isInt, h.drop.isInt]
        exact .inl ⟨_, _, rfl, rfl, hl, plainI _ er⟩
      · split at ey
        · rename_i hl
          cases ey
          rw [h.isInt, h.drop.isInt]
          exact .inr ⟨_, _, rfl, rfl, ⟨by omega, hl.2⟩, plainI _ er⟩
        · cases ey
    · split at ey
      · rename_i hl
        cases ey
        rw [h.isInt, h.drop.isInt]
        exact .inl ⟨_, _, rfl, rfl, hl, plainI _ er⟩
      · split at ey
        · rename_i hl
          cases ey
          rw [h.isInt, h.drop.isInt]
          exact .inr ⟨_, _, rfl, rfl, by omega, plainI _ er⟩
        · cases ey
    · split at ey
      · rename_i hl
        cases ey
        rw [h.isInt, h.drop.isInt]
        exact ⟨_, _, rfl, rfl, hl, plainI _ er⟩
      · cases ey
    · cases ey
  · obtain ⟨t0, o0, ρ0⟩ := r
    rcases hz with ⟨zs, e1, e2⟩ | ⟨zs, e1, e2⟩
    · cases e1; cases e2
      unfold binV at ey
      split at ey
      · cases ey
      · split at ey <;> cases ey
      · split at ey
        · rename_i xs ys hl
          cases ey
          obtain ⟨a, b, ws, zs, ea, eb, ra, rb, l1, l2, h2⟩ := h'.kids2L rfl
          exact .inr (.inr (.inl ⟨a, b, ws, zs, ea, eb, ra, rb, by omega, fun p hp => hq _ _ (h2.fin (.inr ⟨rfl, rfl⟩) hp) rfl⟩))
        · cases ey
      · split at ey <;> cases ey
      · cases ey
      · split at ey <;> cases ey
      · split at ey
        · rename_i xs kk hl
          cases ey
          exfalso
          rcases mulNl hr ey0 with z | ⟨ys', rfl, z⟩
          · rw [z] at n0; cases n0
          · rw [n1 _ rfl] at z; cases z
        · cases ey
      all_goals (repeat' (split at ey)) <;> cases ey
    · cases e1; cases e2
      unfold binV at ey
      split at ey
      · cases ey
      · split at ey <;> cases ey
      · split at ey <;> cases ey
      · split at ey
        · rename_i xs ys hl
          cases ey
          obtain ⟨a, b, ws, zs, ea, eb, ra, rb, l1, l2, h2⟩ := h'.kids2T rfl
          subst ea eb
          exact .inr (.inr (.inr (catT_ok hl.2 hl.1 l1 l2 ra rb fun p hp => hq _ _ (h2.finT (.inr ⟨rfl, rfl⟩) hp) rfl)))
        · cases ey
      all_goals (repeat' (split at ey)) <;> cases ey
end
end Ev
namespace Ev
open PySem PySem.Spec PyProof.Rows L2
mutual
def toPD : T → PyData
  | .non => .none
  | .bl b => .bool b
  | .int i => .int i
  | .str s => .str (S8 s)
  | .tup xs => .tuple (toPDs xs)
  | .lst xs => .list (toPDs xs)
  | .dct _ _ => .none
  | .obj _ _ _ => .none
def toPDs : List T → List PyData
  | [] => []
  | x :: xs => toPD x :: toPDs xs
end
theorem S8_beq (a b : List Nat) : (S8 a == S8 b) = (a == b) := by
  by_cases e : a = b
  · subst e; simp
  · have : S8 a ≠ S8 b := fun h => e (by simpa [S8] using h)
    rw [beq_eq_false_iff_ne.mpr this, beq_eq_false_iff_ne.mpr e]
mutual
theorem eqv_toPD : ∀ {n m : Nat} {a b : T}, a.depLe n = true → b.depLe m = true → PyData.eqv (toPD a) (toPD b) = eqT a b
  | n, m, a, b, ha, hb => by
    cases a <;> cases b <;> try (simp only [toPD, PyData.eqv, eqT]; done)
    all_goals first
      | (cases n <;> simp [T.depLe] at ha; done)
      | (cases m <;> simp [T.depLe] at hb; done)
      | skip
    · simp only [toPD, PyData.eqv, eqT, S8_beq]
    · simp only [toPD, PyData.eqv, eqT]
      cases n <;> simp only [T.depLe] at ha <;> first | cases ha | skip
      cases m <;> simp only [T.depLe] at hb <;> first | cases hb | skip
      exact eqvs_toPD ha hb
    · simp only [toPD, PyData.eqv, eqT]
      cases n <;> simp only [T.depLe] at ha <;> first | cases ha | skip
      cases m <;> simp only [T.depLe] at hb <;> first | cases hb | skip
      exact eqvs_toPD ha hb
theorem eqvs_toPD : ∀ {n m : Nat} {a b : List T}, depLeL n a = true → depLeL m b = true → PyData.eqvAll (toPDs a) (toPDs b) = eqTL a b
  | _, _, [], [], _, _ => by simp [toPDs, PyData.eqvAll, eqTL]
  | _, _, [], _ :: _, _, _ => by simp [toPDs, PyData.eqvAll, eqTL]
  | _, _, _ :: _, [], _, _ => by simp [toPDs, PyData.eqvAll, eqTL]
  | n, m, x :: xs, y :: ys, ha, hb => by
    simp only [depLeL, Bool.and_eq_true] at ha hb
    simp only [toPDs, PyData.eqvAll, eqTL]
    rw [eqv_toPD ha.1 hb.1, eqvs_toPD ha.2 hb.2]
end
mutual
theorem depth_toPD : ∀ {n : Nat} {a : T}, a.depLe n = true → (toPD a).depth ≤ n
  | n, .non, _ => by simp [toPD, PyData.depth]
  | n, .bl _, _ => by simp [toPD, PyData.depth]
  | n, .int _, _ => by simp [toPD, PyData.depth]
  | n, .str _, _ => by simp [toPD, PyData.depth]
  | 0, .tup _, h => by simp [T.depLe] at h
  | 0, .lst _, h => by simp [T.depLe] at h
  | n + 1, .tup xs, h => by
    simp only [toPD, PyData.depth]
    exact Nat.succ_le_succ (depths_toPD (by simpa [T.depLe] using h))
  | n + 1, .lst xs, h => by
    simp only [toPD, PyData.depth]
    exact Nat.succ_le_succ (depths_toPD (by simpa [T.depLe] using h))
  | n, .dct _ _, h => by simp [T.depLe] at h
  | n, .obj _ _ _, h => by simp [T.depLe] at h
theorem depths_toPD : ∀ {n : Nat} {a : List T}, depLeL n a = true → PyData.depthAll (toPDs a) ≤ n
  | n, [], _ => by simp [toPDs, PyData.depthAll]
  | n, x :: xs, h => by
    simp only [depLeL, Bool.and_eq_true] at h
    simp only [toPDs, PyData.depthAll]
    exact Nat.max_le.mpr ⟨depth_toPD h.1, depths_toPD h.2⟩
end
section
variable {K : PySem.W.Frag} {F H : Hp}
theorem strOk_ascii {s : List Nat} (h : Ascii s) : PyData.strOk (S8 s) = true := by
  simp only [PyData.strOk, S8, Array.all_eq_true]
  intro i hi
  have : s.toArray[i] ∈ s := by simp
  simpa using Nat.lt_trans (h.2 _ this) (by decide)
mutual
theorem dp_of (sm : Same F H) : ∀ {n : Nat} {t : T} {o : Own} {v : V} {fp : List Addr}, t.depLe n = true → Rp K F H o t v fp → Dp K H v (toPD t) ∧ (toPD t).canLay0 = true
  | _, .non, _, _, _, _, h => by simp only [Rp] at h; rw [h.1]; exact ⟨.non, by simp [toPD, PyData.canLay0]⟩
  | _, .bl _, _, _, _, _, h => by simp only [Rp] at h; rw [h.1]; exact ⟨.bl _, by simp [toPD, PyData.canLay0]⟩
  | _, .int _, _, _, _, _, h => by simp only [Rp] at h; rw [h.1]; exact ⟨.int _, by simp [toPD, PyData.canLay0]⟩
  | _, .str s, _, _, _, _, h => by simp only [Rp] at h; rw [h.1]; exact ⟨.str _, by simp only [toPD, PyData.canLay0]; exact strOk_ascii h.2.2⟩
  | 0, .tup _, _, _, _, h, _ => by simp [T.depLe] at h
  | 0, .lst _, _, _, _, h, _ => by simp [T.depLe] at h
  | n + 1, .tup xs, _, _, _, d, h => by
    simp only [Rp] at h
    obtain ⟨a, vs, rfl, q, r⟩ := h
    have z := dps_of sm (n := n) (by simpa [T.depLe] using d) r
    exact ⟨.tup q z.1, by simp only [toPD, PyData.canLay0]; exact z.2⟩
  | n + 1, .lst xs, _, _, _, d, h => by
    simp only [Rp] at h
    obtain ⟨a, vs, hd, fp', rfl, q, r, _⟩ := h
    have z := dps_of sm (n := n) (by simpa [T.depLe] using d) r
    exact ⟨.lst (.inl (q.view sm)) z.1, by simp only [toPD, PyData.canLay0]; exact z.2⟩
  | _, .dct _ _, _, _, _, h, _ => by simp [T.depLe] at h
  | _, .obj _ _ _, _, _, _, h, _ => by simp [T.depLe] at h
theorem dps_of (sm : Same F H) : ∀ {n : Nat} {ts : List T} {o : Own} {vs : List V} {fp : List Addr}, depLeL n ts = true → RpL K F H o ts vs fp → DpAll K H vs (toPDs ts) ∧ PyData.canLayAll0 (toPDs ts) = true
  | _, [], _, [], _, _, _ => ⟨.nil, by simp [toPDs, PyData.canLayAll0]⟩
  | n, x :: xs, o, v :: vs, fp, d, h => by
    simp only [RpL] at h
    obtain ⟨f1, f2, h1, h2, _⟩ := h
    simp only [depLeL, Bool.and_eq_true] at d
    have z1 := dp_of sm d.1 h1
    have z2 := dps_of sm d.2 h2
    exact ⟨.cons z1.1 z2.1, by simp only [toPDs, PyData.canLayAll0, Bool.and_eq_true]; exact ⟨z1.2, z2.2⟩⟩
  | _, [], _, _ :: _, _, _, h => by simp [RpL] at h
  | _, _ :: _, _, [], _, _, h => by simp [RpL] at h
end
theorem flat_of : ∀ {t : T} {o : Own} {v : V} {fp : List Addr}, flatT t = true → Rp K F H o t v fp → flatV v = true := by
  intro t o v fp f h
  cases t <;> simp [flatT] at f <;> simp only [Rp] at h <;> rw [h.1] <;> rfl
theorem flats_of : ∀ {ts : List T} {o : Own} {vs : List V} {fp : List Addr}, ts.all flatT = true → RpL K F H o ts vs fp → vs.all flatV = true
  | [], _, [], _, _, _ => rfl
  | x :: xs, o, v :: vs, fp, f, h => by
    simp only [RpL] at h
    obtain ⟨f1, f2, h1, h2, _⟩ := h
    simp only [List.all_cons, Bool.and_eq_true] at f ⊢
    exact ⟨flat_of f.1 h1, flats_of f.2 h2⟩
  | [], _, _ :: _, _, _, h => by simp [RpL] at h
  | _ :: _, _, [], _, _, h => by simp [RpL] at h
theorem eqV_of {F' : Hp} {t u : T} {o o' : Own} {v w : V} {fp fq : List Addr} (ft : flatT t = true) (fu : flatT u = true) (ht : Rp K F H o t v fp) (hu : Rp K F' H o' u w fq) : eqV v w = eqT t u := by
  cases t <;> simp only [flatT] at ft <;> (try cases ft) <;> cases u <;> simp only [flatT] at fu <;> (try cases fu) <;> simp only [Rp] at ht hu <;> rw [ht.1, hu.1] <;> simp only [eqV, eqT]
  exact S8_beq _ _
theorem inV_of {F' : Hp} {t : T} {o o' : Own} {v : V} {fp : List Addr} (ft : flatT t = true) (ht : Rp K F H o t v fp) : ∀ {ts : List T} {vs : List V} {fq : List Addr}, ts.all flatT = true → RpL K F' H o' ts vs fq → inV v vs = memT t ts
  | [], [], _, _, _ => rfl
  | x :: xs, w :: vs, fq, f, h => by
    simp only [RpL] at h
    obtain ⟨f1, f2, h1, h2, _⟩ := h
    simp only [List.all_cons, Bool.and_eq_true] at f
    have z := inV_of ft ht f.2 h2
    simp only [inV, memT, List.any_cons] at z ⊢
    rw [eqV_of f.1 ft h1 ht, z]
  | [], _ :: _, _, _, h => by simp [RpL] at h
  | _ :: _, [], _, _, h => by simp [RpL] at h
end
section
variable {K : PySem.W.Frag} {X : Cx} {H0 F0 H : Hp} {ρ : Env} {σ : L2.St} {τ : List Gp} {t u : T} {o q : Own} {va vb : V} {Q : VK} {b : Bool}
def rLtS : R2 := fun x y H Q => ∃ i j, x = .str i ∧ y = .str j ∧ Q (.bl (decide (i.cps.toList < j.cps.toList))) H
def rIsN : R2 := fun x y H Q => y = .non ∧ Q (.bl (decide (x = .non))) H
def rNotN : R2 := fun x y H Q => y = .non ∧ Q (.bl (!decide (x = .non))) H
def rInS : R2 := fun x y H Q => ∃ (c : Nat) (z : Str), x = .str ⟨#[c]⟩ ∧ y = .str z ∧ Q (.bl (decide (c ∈ z.cps.toList))) H
def rNinS : R2 := fun x y H Q => ∃ (c : Nat) (z : Str), x = .str ⟨#[c]⟩ ∧ y = .str z ∧ Q (.bl (!decide (c ∈ z.cps.toList))) H
def rC (K : PySem.W.Frag) : CO → R2
  | .eq => rEqD K
  | .ne => rNeD K
  | .lt => fun x y H Q => (rI0 fun i j => .bl (decide (i < j))) x y H Q ∨ rLtS x y H Q
  | .le => rI0 fun i j => .bl (decide (i ≤ j))
  | .gt => rI0 fun i j => .bl (decide (j < i))
  | .ge => rI0 fun i j => .bl (decide (j ≤ i))
  | .is => rIsN
  | .isn => rNotN
  | .mem => fun x y H Q => rIn K false x y H Q ∨ rInS x y H Q
  | .nmem => fun x y H Q => rIn K true x y H Q ∨ rNinS x y H Q
theorem opC (hu : X.A.units + 64 < cLine) (op : CO) : OpR X (compareOp op.op) (rC X.K op) := by
  cases op with
  | eq => exact op_eqD hu
  | ne => exact op_neD hu
  | lt => exact op_lt.or op_lt_str
  | le => exact op_le
  | gt => exact op_gt
  | ge => exact op_ge
  | is => exact op_isN
  | isn => exact op_notN
  | mem => exact op_in_seq.or op_in_sign
  | nmem => exact op_notIn_seq.or op_notIn_sign
theorem memV_ok (h : I K H0 F0 ρ σ (g1 q u vb :: g1 o t va :: τ) H) (e : memV t u = some b) :
    (∃ p xs, vb = .ref p ∧ (SqL K H p xs ∨ SqT K H p xs) ∧ flatV va = true ∧ xs.all flatV = true ∧ inV va xs = b) ∨ ∃ (c : Nat) (z : Str), va = .str ⟨#[c]⟩ ∧ vb = .str z ∧ decide (c ∈ z.cps.toList) = b := by
  obtain ⟨F, fp, s, r, _⟩ := h.top
  have r := RpL.one.mp r
  obtain ⟨F', fp', s', r', _⟩ := h.drop.top
  have r' := RpL.one.mp r'
  unfold memV at e
  cases u with
  | lst ys =>
    dsimp only at e
    split at e
    · rename_i f
      simp only [Bool.and_eq_true] at f
      cases e
      simp only [Rp] at r
      obtain ⟨a, vs, hd, fp', rfl, q', rr, _⟩ := r
      exact .inl ⟨a, vs, rfl, .inl (.inl (q'.view s)), flat_of f.1 r', flats_of f.2 rr, inV_of f.1 r' f.2 rr⟩
    · cases e
  | tup ys =>
    dsimp only at e
    split at e
    · rename_i f
      simp only [Bool.and_eq_true] at f
      cases e
      simp only [Rp] at r
      obtain ⟨a, vs, rfl, q', rr⟩ := r
      exact .inl ⟨a, vs, rfl, .inr q', flat_of f.1 r', flats_of f.2 rr, inV_of f.1 r' f.2 rr⟩
    · cases e
  | str ys =>
    dsimp only at e
    split at e
    · cases e
      simp only [Rp] at r r'
      exact .inr ⟨_, _, r'.1, r.1, by simp⟩
    · cases e
  | _ => cases e
theorem eq_ok (h : I K H0 F0 ρ σ (g1 q u vb :: g1 o t va :: τ) H) (d : (T.depLe 64 t && T.depLe 64 u) = true) : ∃ d e, Dp K H va d ∧ Dp K H vb e ∧ SeqAt.shaped d = true ∧ SeqAt.shaped e = true ∧ PyData.eqv d e = eqT t u := by
  obtain ⟨F, fp, s, r, _⟩ := h.top
  have r := RpL.one.mp r
  obtain ⟨F', fp', s', r', _⟩ := h.drop.top
  have r' := RpL.one.mp r'
  simp only [Bool.and_eq_true] at d
  have z := dp_of s d.2 r
  have z' := dp_of s' d.1 r'
  refine ⟨_, _, z'.1, z.1, ?_, ?_, eqv_toPD d.1 d.2⟩
  · exact Bool.and_eq_true_iff.mpr ⟨z'.2, decide_eq_true (depth_toPD d.1)⟩
  · exact Bool.and_eq_true_iff.mpr ⟨z.2, decide_eq_true (depth_toPD d.2)⟩
theorem isNon_ok (h : I K H0 F0 ρ σ (g1 o t va :: τ) H) : decide (va = .non) = isNon t := by
  obtain ⟨F, fp, s, r, _⟩ := h.top
  have r := RpL.one.mp r
  cases t <;> simp only [Rp] at r
  · rw [r.1]; rfl
  · rw [r.1]; rfl
  · rw [r.1]; rfl
  · rw [r.1]; rfl
  · obtain ⟨a, _, rfl, _⟩ := r; rfl
  · obtain ⟨a, _, _, _, rfl, _⟩ := r; rfl
theorem cmp_ok {op : CO} (h : I K H0 F0 ρ σ (g1 q u vb :: g1 o t va :: τ) H) (e : cmpV op t u = some b) (hq : Q (.bl b) H) : rC K op va vb H Q := by
  unfold cmpV at e
  split at e
  · split at e
    · rename_i d
      cases e
      obtain ⟨d1, e1, a1, a2, a3, a4, a5⟩ := eq_ok h d
      exact ⟨d1, e1, a1, a2, a3, a4, by rw [a5]; exact hq⟩
    · cases e
  · split at e
    · rename_i d
      cases e
      obtain ⟨d1, e1, a1, a2, a3, a4, a5⟩ := eq_ok h d
      exact ⟨d1, e1, a1, a2, a3, a4, by rw [a5]; exact hq⟩
    · cases e
  · cases e; rw [h.isInt, h.drop.isInt]; exact .inl ⟨_, _, rfl, rfl, hq⟩
  · cases e; rw [h.isInt, h.drop.isInt]; exact ⟨_, _, rfl, rfl, hq⟩
  · cases e; rw [h.isInt, h.drop.isInt]; exact ⟨_, _, rfl, rfl, hq⟩
  · cases e; rw [h.isInt, h.drop.isInt]; exact ⟨_, _, rfl, rfl, hq⟩
  · cases e
    obtain ⟨rfl, a1⟩ := h.isStr
    obtain ⟨rfl, a2⟩ := h.drop.isStr
    exact .inr ⟨_, _, rfl, rfl, hq⟩
  · cases e; exact ⟨h.isNon, by rw [isNon_ok h.drop]; exact hq⟩
  · cases e; exact ⟨h.isNon, by rw [isNon_ok h.drop]; exact hq⟩
  · rcases memV_ok h e with ⟨p, xs, e1, e2, e3, e4, e5⟩ | ⟨c, z, e1, e2, e3⟩
    · exact .inl ⟨p, xs, e1, e2, e3, e4, by rw [if_neg Bool.false_ne_true, e5]; exact hq⟩
    · exact .inr ⟨c, z, e1, e2, by rw [e3]; exact hq⟩
  · obtain ⟨b', e', rfl⟩ := omap e
    rcases memV_ok h e' with ⟨p, xs, e1, e2, e3, e4, e5⟩ | ⟨c, z, e1, e2, e3⟩
    · exact .inl ⟨p, xs, e1, e2, e3, e4, by rw [if_pos rfl, e5]; exact hq⟩
    · exact .inr ⟨c, z, e1, e2, by rw [e3]; exact hq⟩
  · cases e
end
end Ev
namespace Ev
open PySem PySem.Spec PyProof.Rows L2
section
variable {K : PySem.W.Frag} {F H H0 F0 : Hp} {ρ ρ' : Env} {σ : L2.St} {τ τ' : List Gp}
theorem RTmp.perm {τ τ' : List Gp} (p : τ.Perm τ') : ∀ {fp : List Addr}, RTmp K F H τ fp → ∃ fp', RTmp K F H τ' fp' ∧ fp.Perm fp' := by
  induction p with
  | nil => intro fp h; exact ⟨fp, h, .refl _⟩
  | cons g _ ih =>
    intro fp h
    obtain ⟨f1, f2, h1, h2, rfl⟩ := h
    obtain ⟨f3, h3, p3⟩ := ih h2
    exact ⟨f1 ++ f3, ⟨f1, f3, h1, h3, rfl⟩, p3.append_left _⟩
  | swap g g' l =>
    intro fp h
    obtain ⟨f1, f2, h1, ⟨f3, f4, h3, h4, rfl⟩, rfl⟩ := h
    refine ⟨f3 ++ (f1 ++ f4), ⟨f3, f1 ++ f4, h3, ⟨f1, f4, h1, h4, rfl⟩, rfl⟩, ?_⟩
    rw [← List.append_assoc, ← List.append_assoc]
    exact List.perm_append_comm.append_right _
  | trans _ _ ih1 ih2 =>
    intro fp h
    obtain ⟨f1, h1, p1⟩ := ih1 h
    obtain ⟨f2, h2, p2⟩ := ih2 h1
    exact ⟨f2, h2, p1.trans p2⟩
theorem I.perm (h : I K H0 F0 ρ σ τ H) (p : τ.Perm τ') : I K H0 F0 ρ σ τ' H := by
  obtain ⟨F, fρ, fτ, c⟩ := h
  obtain ⟨f, h', pf⟩ := c.tmp.perm p
  exact ⟨F, fρ, f, c.fh, c.h0, c.f0, fun a m => c.ow a ((pf.append_left fρ).mem_iff.mpr m), (pf.append_left fρ).nodup_iff.mp c.nd, c.env, h'⟩
/-- the arguments as they come, the last one on top -/
def stk : List T → List Own → List V → List Gp → List Gp
  | t :: ts, o :: os, v :: vs, τ => stk ts os vs (g1 o t v :: τ)
  | _, _, _, τ => τ
theorem stk_perm : ∀ (ts : List T) (os : List Own) (vs : List V) (g : Gp) (τ : List Gp), (stk ts os vs (g :: τ)).Perm (g :: stk ts os vs τ)
  | t :: ts, o :: os, v :: vs, g, τ => by
    show (stk ts os vs (g1 o t v :: g :: τ)).Perm (g :: stk ts os vs (g1 o t v :: τ))
    refine (stk_perm ts os vs _ _).trans ?_
    refine ((stk_perm ts os vs g τ).cons _).trans ?_
    refine (List.Perm.swap _ _ _).trans ?_
    exact (stk_perm ts os vs _ _).symm.cons _
  | [], _, _, _, _ => .refl _
  | _ :: _, [], _, _, _ => .refl _
  | _ :: _, _ :: _, [], _, _ => .refl _
def Lk (σ : L2.St) (o : Own) (v : V) : Prop := ∀ i, o = .view i → σ[i]? = some (some v)
def LkL (σ : L2.St) : List Own → List V → Prop
  | [], [] => True
  | o :: os, v :: vs => Lk σ o v ∧ LkL σ os vs
  | _, _ => False
theorem I.reL : ∀ {ts : List T} {os : List Own} {vs : List V} {ρ : Env} {τ : List Gp} {z : List T × Env}, I K H0 F0 ρ σ (stk ts os vs τ) H → Ev.reL ts os ρ = some z → LkL σ os vs → I K H0 F0 z.2 σ (⟨.cold, z.1, vs⟩ :: τ) H ∧ z.1.length = vs.length
  | [], [], [], ρ, τ, z, h, e, _ => by
    cases e
    exact ⟨I.nil h, rfl⟩
  | t :: ts, o :: os, v :: vs, ρ, τ, z, h, e, lk => by
    simp only [Ev.reL] at e
    obtain ⟨x, e1, e⟩ := obind e
    obtain ⟨y, e2, rfl⟩ := omap e
    have h1 := (I.perm h (stk_perm ts os vs _ _)).re e1 lk.1
    have h2 := I.reL (I.perm h1 (stk_perm ts os vs _ _).symm) e2 lk.2
    exact ⟨h2.1.swap.join, by simp [h2.2]⟩
  | [], [], _ :: _, _, _, _, _, _, lk => lk.elim
  | _ :: _, _ :: _, [], _, _, _, _, _, lk => lk.elim
  | [], _ :: _, _, _, _, _, _, e, _ => by simp [Ev.reL] at e
  | _ :: _, [], _, _, _, _, _, e, _ => by simp [Ev.reL] at e
theorem I.frzG {g : Gp} (h : I K H0 F0 ρ σ (g :: τ) H) (nv : g.o.isView = false) : I K H0 F0 ρ σ (⟨.cold, g.ts, g.vs⟩ :: τ) H := h.frz nv
end
/-- the claim of kept values together -/
def gO (o : Own) : Own := if o.isFull then .full else .cold
section
variable {P : Program} {w : World} {K : PySem.W.Frag} {mg : Str → Option Value} {base : Heap} {k : Nat} {N : List Str} {sc : Scope} {U : BF → Bool} {G : List Nat → Option T} {C : List Nat → List T → Option (T × Own)}
variable {X : Cx} {H0 F0 H H' : Hp} {ρ ρ' : Env} {σ : L2.St} {τ : List Gp} {t u y : T} {o q : Own} {va vb v : V} {r : R} {Q : VK}
/-- SV for each of some -/
inductive SVs (P : Program) (w : World) (K : PySem.W.Frag) (mg : Str → Option Value) (base : Heap) (k : Nat) (N : List Str) (sc : Scope) : List Den → List Expr → Prop
  | nil : SVs P w K mg base k N sc [] []
  | cons {d : Den} {ds : List Den} {p : Expr} {ps : List Expr} (h : SV P w K mg base k N sc d p) (pl : Plain p) (t : SVs P w K mg base k N sc ds ps) : SVs P w K mg base k N sc (d :: ds) (p :: ps)
theorem pa_V {ds : List Den} {ps : List Expr} (h : SVs P w K mg base k N sc ds ps) : ∀ X, XOk P w K mg base k N sc X → ∃ t, PA X ps t ∧ ∀ H0 F0 ρ σ τ H x Q, I K H0 F0 ρ σ τ H → (anyC ds = true → NoV τ) → evV ds ρ = some x →
    (∀ vs H', I K H0 F0 x.2.2 σ (stk x.1 x.2.1 vs τ) H' → LkL σ x.2.1 vs → Q vs H') → t σ H Q := by
  induction h with
  | nil =>
    intro X ok
    refine ⟨tNil, pa_nil, fun H0 F0 ρ σ τ H x Q hI hv e q => ?_⟩
    cases e
    exact q [] H hI trivial
  | cons h pl _ ih =>
    intro X ok
    obtain ⟨t1, p1, q1⟩ := h X ok
    obtain ⟨t2, p2, q2⟩ := ih X ok
    refine ⟨tCons t1 t2, pa_cons p1 p2 (pl.star _ _), fun H0 F0 ρ σ τ H x Q hI hv e q => ?_⟩
    simp only [evV] at e
    obtain ⟨r0, e1, e⟩ := obind e
    obtain ⟨r, e0, e⟩ := obind e
    obtain ⟨y, e2, rfl⟩ := omap e
    refine q1 _ _ _ _ _ _ r0 _ hI (fun c => hv (by simp [anyC, c])) e1 fun v H1 hI0 l0 => ?_
    obtain ⟨hI1, l1, n1⟩ := hI0.vo e0 l0
    refine q2 _ _ _ _ _ _ y _ hI1 (fun c => (hv (by simp [anyC, c])).cons (n1 c)) e2 fun vs H2 hI2 l2 => ?_
    exact q _ _ hI2 ⟨l1, l2⟩
theorem minO_full {a b : Own} : (minO a b).isFull = (a.isFull && b.isFull) := by
  unfold minO
  cases a <;> cases b <;> rfl
theorem full_of {o : Own} (h : o.isFull = true) : o = .full := by cases o <;> first | rfl | cases h
theorem evL_own : ∀ {ds : List Den} {ρ : Env} {x : List T × Own × Env}, evL ds ρ = some x → x.2.1 = .full ∨ x.2.1 = .shal
  | [], _, _, e => by cases e; exact .inl rfl
  | d :: ds, ρ, x, e => by
    simp only [evL] at e
    obtain ⟨r0, _, e⟩ := obind e
    obtain ⟨r, _, e⟩ := obind e
    obtain ⟨y, _, rfl⟩ := omap e
    show minO _ _ = _ ∨ minO _ _ = _
    unfold minO
    split
    · exact .inl rfl
    · exact .inr rfl
theorem pa_L {ds : List Den} {ps : List Expr} (h : SVs P w K mg base k N sc ds ps) : ∀ X, XOk P w K mg base k N sc X → ∃ t, PA X ps t ∧ ∀ H0 F0 ρ σ τ H x Q, I K H0 F0 ρ σ τ H → (anyC ds = true → NoV τ) → evL ds ρ = some x →
    (∀ vs H', I K H0 F0 x.2.2 σ (⟨gO x.2.1, x.1, vs⟩ :: τ) H' → x.1.length = vs.length → Q vs H') → t σ H Q := by
  induction h with
  | nil =>
    intro X ok
    refine ⟨tNil, pa_nil, fun H0 F0 ρ σ τ H x Q hI hv e q => ?_⟩
    cases e
    exact q [] H (I.nil hI) rfl
  | cons h pl _ ih =>
    intro X ok
    obtain ⟨t1, p1, q1⟩ := h X ok
    obtain ⟨t2, p2, q2⟩ := ih X ok
    refine ⟨tCons t1 t2, pa_cons p1 p2 (pl.star _ _), fun H0 F0 ρ σ τ H x Q hI hv e q => ?_⟩
    simp only [evL] at e
    obtain ⟨r0, e1, e⟩ := obind e
    obtain ⟨r, e1', e⟩ := obind e
    obtain ⟨y, e2, rfl⟩ := omap e
    refine q1 _ _ _ _ _ _ r0 _ hI (fun c => hv (by simp [anyC, c])) e1 fun v H1 hI1 l1 => ?_
    obtain ⟨nv, hI1'⟩ := hI1.val e1' l1
    refine q2 _ _ _ _ _ _ y _ hI1' (fun c => (hv (by simp [anyC, c])).cons nv) e2 fun vs H2 hI2 l2 => ?_
    refine q _ _ ?_ (by simp [l2])
    show I K H0 F0 y.2.2 σ (⟨gO (minO r.o y.2.1), r.t :: y.1, v :: vs⟩ :: τ) H2
    unfold gO
    rw [minO_full]
    cases ef : r.o.isFull with
    | true =>
      have er := full_of ef
      rw [er] at hI2
      cases eg : y.2.1.isFull with
      | true =>
        unfold gO at hI2
        rw [eg] at hI2
        exact hI2.swap.join
      | false =>
        unfold gO at hI2
        rw [eg] at hI2
        exact (hI2.swap.frz rfl).join
    | false =>
      have nv2 : (gO y.2.1).isView = false := by unfold gO; split <;> rfl
      exact ((hI2.frz nv2).swap.frz nv).join
theorem sv_bin {op : BO} {a b : E} {pa pb : Expr} {pos : Pos} (ha : SV P w K mg base k N sc (den G C a) pa) (hb : SV P w K mg base k N sc (den G C b) pb) : SV P w K mg base k N sc (den G C (.bin op a b)) (.BinOp pa op.op pb pos) := fun X ok => by
  obtain ⟨ta, p1, q1⟩ := ha X ok
  obtain ⟨tb, p2, q2⟩ := hb X ok
  refine ⟨_, pe_op (opB op) p1 p2, fun H0 F0 ρ σ τ H r Q hI hv he q => ?_⟩
  simp only [den, valD] at he
  obtain ⟨r0, e1, he⟩ := obind he
  obtain ⟨ra, e0, he⟩ := obind he
  obtain ⟨rb, e2, he⟩ := obind he
  split at he
  · rename_i hr
    refine q1 _ _ _ _ _ _ r0 _ hI (fun c => hv (by simp [den, valD, c])) e1 fun v H1 hI0 l0 => ?_
    obtain ⟨hI1, l1, n1⟩ := hI0.vo e0 l0
    refine q2 _ _ _ _ _ _ rb _ hI1 (fun c => (hv (by simp [den, valD, c])).cons (n1 c)) e2 fun v2 H2 hI2 l2 => ?_
    rw [ok.K_]
    exact bin_ok hI2 hr he l1 l2 fun v H' h nv => q v H' h (nolink nv)
  · cases he
theorem sv_neg {a : E} {pa : Expr} {pos : Pos} (ha : SV P w K mg base k N sc (den G C a) pa) : SV P w K mg base k N sc (den G C (.neg a)) (.UnaryOp .USub pa pos) := fun X ok => by
  obtain ⟨ta, p1, q1⟩ := ha X ok
  refine ⟨_, pe_un un_neg p1, fun H0 F0 ρ σ τ H r Q hI hv he q => ?_⟩
  simp only [den, valD] at he
  obtain ⟨ra, e1, he⟩ := obind he
  refine q1 _ _ _ _ _ _ ra _ hI (fun c => hv (by simpa [den, valD, tstD] using c)) e1 fun v H1 hI1 l1 => ?_
  obtain ⟨t, o, ρ1⟩ := ra
  cases t with
  | int i =>
    cases he
    exact ⟨i, hI1.isInt, q _ _ (hI1.drop.int _) (nolink rfl)⟩
  | _ => cases he
theorem tru_of (h : I K H0 F0 ρ σ (g1 o t v :: τ) H) {c : Bool} (e : truth t = some c) : TruV K v H c := by
  cases t with
  | non => rw [h.isNon]; cases e; rfl
  | bl b => rw [h.isBl]; cases e; rfl
  | int i => rw [h.isInt]; cases e; rfl
  | str s =>
    obtain ⟨rfl, a⟩ := h.isStr
    cases e
    refine ⟨a.1, ?_⟩
    cases s with
    | nil => rfl
    | cons c s =>
      show true = _
      have : ((((c :: s).toArray.size : Nat) : Int) != 0) = true := by simp; omega
      exact this.symm
  | tup xs =>
    obtain ⟨a, ws, rfl, r, l, _⟩ := h.kidsT
    cases e
    refine .inr (.inl ⟨ws, r, ?_⟩)
    cases xs <;> cases ws <;> first | rfl | (simp at l)
  | lst xs =>
    obtain ⟨a, ws, rfl, r, l, _⟩ := h.kidsL
    cases e
    refine .inl ⟨ws, .inl r, ?_⟩
    cases xs <;> cases ws <;> first | rfl | (simp at l)
  | dct ks vs =>
    obtain ⟨F, fp, s, r, _⟩ := h.top
    have r := RpL.one.mp r
    simp only [Rp] at r
  | obj _ _ _ => cases e
/-- a test that is its value's truth -/
theorem st_of {d : Den} {pe : Expr} (h : SV P w K mg base k N sc d pe) (hd : d.t = tOf d.v) (he : TruE pe) : ST P w K mg base k N sc d pe := fun X ok => by
  obtain ⟨ta, p1, q1⟩ := h X ok
  refine ⟨_, pt_truth p1 (he X.env), fun H0 F0 ρ σ τ H r Q hI hv e q => ?_⟩
  rw [hd] at e
  obtain ⟨rr, e1, e⟩ := obind e
  obtain ⟨c, e2, rfl⟩ := omap e
  refine q1 _ _ _ _ _ _ rr _ hI hv e1 fun v H1 hI1 l1 => ?_
  rw [ok.K_]
  exact ⟨c, tru_of hI1 e2, q _ hI1.drop⟩
theorem st_notv {a : E} {pa : Expr} {pos : Pos} (ha : ST P w K mg base k N sc (den G C a) pa) : ST P w K mg base k N sc (den G C (.notv a)) (.UnaryOp .Not pa pos) := fun X ok => by
  obtain ⟨ta, p1, q1⟩ := ha X ok
  refine ⟨_, pt_not p1, fun H0 F0 ρ σ τ H r Q hI hv he q => ?_⟩
  simp only [den, tstD] at he
  obtain ⟨ra, e1, rfl⟩ := omap he
  exact q1 _ _ _ _ _ _ ra _ hI (fun c => hv (by simpa [den, tstD] using c)) e1 fun H1 hI1 => q H1 hI1
theorem sv_notv {a : E} {pa : Expr} {pos : Pos} (ha : SV P w K mg base k N sc (den G C a) pa) : SV P w K mg base k N sc (den G C (.notv a)) (.UnaryOp .Not pa pos) := fun X ok => by
  obtain ⟨ta, p1, q1⟩ := ha X ok
  refine ⟨_, L2.pe_notT p1, fun H0 F0 ρ σ τ H r Q hI hv he q => ?_⟩
  simp only [den, tstD] at he
  obtain ⟨ra, e1, he⟩ := obind he
  obtain ⟨c, e2, rfl⟩ := omap he
  refine q1 _ _ _ _ _ _ ra _ hI (fun c => hv (by simpa [den, valD, tstD] using c)) e1 fun v H1 hI1 l1 => ?_
  rw [ok.K_]
  exact ⟨c, tru_of hI1 e2, q _ _ (hI1.drop.bl _) (nolink rfl)⟩
theorem sv_cmp {op : CO} {a b : E} {pa pb : Expr} {pos : Pos} (ha : SV P w K mg base k N sc (den G C a) pa) (hb : SV P w K mg base k N sc (den G C b) pb) (hp : behindInMarks op.op pb = false) : SV P w K mg base k N sc (den G C (.cmp op a b)) (.Compare pa [op.op] [pb] pos) := fun X ok => by
  obtain ⟨ta, p1, q1⟩ := ha X ok
  obtain ⟨tb, p2, q2⟩ := hb X ok
  refine ⟨_, pe_cmpR (opC ok.room.units op) p1 p2 hp, fun H0 F0 ρ σ τ H r Q hI hv he q => ?_⟩
  simp only [den, valD] at he
  obtain ⟨r0, e1, he⟩ := obind he
  obtain ⟨ra, e0, he⟩ := obind he
  obtain ⟨rb, e2, he⟩ := obind he
  obtain ⟨c, e3, rfl⟩ := omap he
  refine q1 _ _ _ _ _ _ r0 _ hI (fun c => hv (by simp [den, valD, c])) e1 fun v H1 hI0 l0 => ?_
  obtain ⟨hI1, l1, n1⟩ := hI0.vo e0 l0
  refine q2 _ _ _ _ _ _ rb _ hI1 (fun c => (hv (by simp [den, valD, c])).cons (n1 c)) e2 fun v2 H2 hI2 l2 => ?_
  rw [ok.K_]
  exact cmp_ok hI2 e3 (q _ _ (hI2.drop.drop.bl _) (nolink rfl))
theorem st_cmp {op : CO} {a b : E} {pa pb : Expr} {pos : Pos} (ha : SV P w K mg base k N sc (den G C a) pa) (hb : SV P w K mg base k N sc (den G C b) pb) (hp : behindInMarks op.op pb = false) : ST P w K mg base k N sc (den G C (.cmp op a b)) (.Compare pa [op.op] [pb] pos) := fun X ok => by
  obtain ⟨ta, p1, q1⟩ := ha X ok
  obtain ⟨tb, p2, q2⟩ := hb X ok
  refine ⟨_, pt_cmpR (opC ok.room.units op) p1 p2 hp, fun H0 F0 ρ σ τ H r Q hI hv he q => ?_⟩
  simp only [den, valD, tOf] at he
  obtain ⟨rr, he, he'⟩ := obind he
  obtain ⟨r0, e1, he⟩ := obind he
  obtain ⟨ra, e0, he⟩ := obind he
  obtain ⟨rb, e2, he⟩ := obind he
  obtain ⟨c, e3, rfl⟩ := omap he
  simp only [truth, Option.map_some, Option.some.injEq] at he'
  subst he'
  refine q1 _ _ _ _ _ _ r0 _ hI (fun c => hv (by simp [den, valD, c])) e1 fun v H1 hI0 l0 => ?_
  obtain ⟨hI1, l1, n1⟩ := hI0.vo e0 l0
  refine q2 _ _ _ _ _ _ rb _ hI1 (fun c => (hv (by simp [den, valD, c])).cons (n1 c)) e2 fun v2 H2 hI2 l2 => ?_
  rw [ok.K_]
  exact cmp_ok hI2 e3 ⟨c, rfl, q _ hI2.drop.drop⟩
theorem sv_chain {op op' : CO} {a b c : E} {pa pb pc : Expr} {pos : Pos} (ha : SV P w K mg base k N sc (den G C a) pa) (hb : SV P w K mg base k N sc (den G C b) pb) (hc : SV P w K mg base k N sc (den G C c) pc)
    (h2 : behindInMarks op'.op pc = false) : SV P w K mg base k N sc (den G C (.chain op op' a b c)) (.Compare pa [op.op, op'.op] [pb, pc] pos) := fun X ok => by
  obtain ⟨ta, p1, q1⟩ := ha X ok
  obtain ⟨tb, p2, q2⟩ := hb X ok
  obtain ⟨tc, p3, q3⟩ := hc X ok
  refine ⟨_, pe_chain (opC ok.room.units op) (opC ok.room.units op') p1 p2 p3 h2, fun H0 F0 ρ σ τ H r Q hI hv he q => ?_⟩
  simp only [den, valD] at he
  obtain ⟨r0, e1, he⟩ := obind he
  obtain ⟨ra, e0, he⟩ := obind he
  obtain ⟨r1, e2, he⟩ := obind he
  obtain ⟨rb, e20, he⟩ := obind he
  obtain ⟨c1, e3, he⟩ := obind he
  refine q1 _ _ _ _ _ _ r0 _ hI (fun c => hv (by simp [den, valD, c])) e1 fun v H1 hI0 l0 => ?_
  obtain ⟨hI1, l1, n1⟩ := hI0.vo e0 l0
  refine q2 _ _ _ _ _ _ r1 _ hI1 (fun c => (hv (by simp [den, valD, c])).cons (n1 (by simp [c]))) e2 fun v2 H2 hI20 l20 => ?_
  obtain ⟨hI2, l2, n2⟩ := hI20.vo e20 l20
  rw [ok.K_]
  refine cmp_ok hI2 e3 ⟨c1, rfl, ?_⟩
  cases c1 with
  | false =>
    cases he
    exact iteF (q _ _ (hI2.drop.drop.bl _) (nolink rfl))
  | true =>
    obtain ⟨rc, e4, he⟩ := obind he
    obtain ⟨c2, e5, rfl⟩ := omap he
    refine iteT (q3 _ _ _ _ _ _ rc _ hI2 (fun c => ((hv (by simp [den, valD, c])).cons (n1 (by simp [c]))).cons (n2 c)) e4 fun v3 H3 hI3 l3 => ?_)
    exact cmp_ok hI3 e5 (q _ _ (hI3.drop.drop.drop.bl _) (nolink rfl))
theorem st_chain {op op' : CO} {a b c : E} {pa pb pc : Expr} {pos : Pos} (ha : SV P w K mg base k N sc (den G C a) pa) (hb : SV P w K mg base k N sc (den G C b) pb) (hc : SV P w K mg base k N sc (den G C c) pc)
    (h2 : behindInMarks op'.op pc = false) : ST P w K mg base k N sc (den G C (.chain op op' a b c)) (.Compare pa [op.op, op'.op] [pb, pc] pos) := fun X ok => by
  obtain ⟨ta, p1, q1⟩ := ha X ok
  obtain ⟨tb, p2, q2⟩ := hb X ok
  obtain ⟨tc, p3, q3⟩ := hc X ok
  refine ⟨_, pt_chain (opC ok.room.units op) (opC ok.room.units op') p1 p2 p3 h2, fun H0 F0 ρ σ τ H r Q hI hv he q => ?_⟩
  simp only [den, valD, tOf] at he
  obtain ⟨rr, he, he'⟩ := obind he
  obtain ⟨r0, e1, he⟩ := obind he
  obtain ⟨ra, e0, he⟩ := obind he
  obtain ⟨r1, e2, he⟩ := obind he
  obtain ⟨rb, e20, he⟩ := obind he
  obtain ⟨c1, e3, he⟩ := obind he
  refine q1 _ _ _ _ _ _ r0 _ hI (fun c => hv (by simp [den, valD, c])) e1 fun v H1 hI0 l0 => ?_
  obtain ⟨hI1, l1, n1⟩ := hI0.vo e0 l0
  refine q2 _ _ _ _ _ _ r1 _ hI1 (fun c => (hv (by simp [den, valD, c])).cons (n1 (by simp [c]))) e2 fun v2 H2 hI20 l20 => ?_
  obtain ⟨hI2, l2, n2⟩ := hI20.vo e20 l20
  rw [ok.K_]
  refine cmp_ok hI2 e3 ⟨c1, rfl, ?_⟩
  cases c1 with
  | false =>
    cases he
    cases he'
    exact iteF ⟨false, rfl, q _ hI2.drop.drop⟩
  | true =>
    obtain ⟨rc, e4, he⟩ := obind he
    obtain ⟨c2, e5, rfl⟩ := omap he
    cases he'
    refine iteT (q3 _ _ _ _ _ _ rc _ hI2 (fun c => ((hv (by simp [den, valD, c])).cons (n1 (by simp [c]))).cons (n2 c)) e4 fun v3 H3 hI3 l3 => ?_)
    exact cmp_ok hI3 e5 ⟨c2, rfl, q _ hI3.drop.drop.drop⟩
end
end Ev
namespace Ev
open PySem PySem.Spec PyProof.Rows L2
section
variable {P : Program} {w : World} {K : PySem.W.Frag} {mg : Str → Option Value} {base : Heap} {k : Nat} {N : List Str} {sc : Scope} {U : BF → Bool} {G : List Nat → Option T} {C : List Nat → List T → Option (T × Own)}
variable {X : Cx} {H0 F0 H H' F : Hp} {ρ ρ' : Env} {σ : L2.St} {τ : List Gp} {t u y : T} {o q : Own} {va vb v : V} {r : R} {Q : VK}
theorem sv_and {ds : List Den} {ps : List Expr} {pos : Pos} (h : SVs P w K mg base k N sc ds ps) : SV P w K mg base k N sc ⟨anyC ds, andVals ds, andTs ds, iOf (andVals ds)⟩ (.BoolOp .And ps pos) := by
  induction h with
  | nil => exact fun X ok => ⟨fun _ _ _ => False, ⟨fun _ _ _ _ _ _ z => z.elim⟩, fun H0 F0 ρ σ τ H r Q hI hv he q => by cases he⟩
  | @cons d ds p ps h pl t ih =>
    intro X ok
    cases t with
    | nil =>
      obtain ⟨ta, p1, q1⟩ := h X ok
      exact ⟨ta, pe_one p1, fun H0 F0 ρ σ τ H r Q hI hv he q => q1 _ _ _ _ _ _ r _ hI (fun c => hv (by simp [anyC, c])) he q⟩
    | @cons d' ds' p' ps' h' pl' t' =>
      obtain ⟨ta, p1, q1⟩ := h X ok
      obtain ⟨tb, p2, q2⟩ := ih X ok
      refine ⟨_, pe_and p1 p2, fun H0 F0 ρ σ τ H r Q hI hv he q => ?_⟩
      simp only [andVals] at he
      obtain ⟨ra, e1, he⟩ := obind he
      refine q1 _ _ _ _ _ _ ra _ hI (fun c => hv (by simp [anyC, c])) e1 fun v H1 hI1 l1 => ?_
      obtain ⟨t0, o0, ρ0⟩ := ra
      cases t0 with
      | bl b =>
        refine ⟨b, hI1.isBl, ?_⟩
        cases b with
        | true => exact iteT (q2 _ _ _ _ _ _ r _ hI1.drop (fun c => hv (by simp only [anyC, Bool.or_eq_true] at c ⊢; exact .inr c)) he q)
        | false => cases he; exact iteF (q _ _ (hI1.drop.bl _) (nolink rfl))
      | _ => cases he
theorem sv_or {ds : List Den} {ps : List Expr} {pos : Pos} (h : SVs P w K mg base k N sc ds ps) : SV P w K mg base k N sc ⟨anyC ds, orVals ds, orTs ds, iOf (orVals ds)⟩ (.BoolOp .Or ps pos) := by
  induction h with
  | nil => exact fun X ok => ⟨fun _ _ _ => False, ⟨fun _ _ _ _ _ _ z => z.elim⟩, fun H0 F0 ρ σ τ H r Q hI hv he q => by cases he⟩
  | @cons d ds p ps h pl t ih =>
    intro X ok
    cases t with
    | nil =>
      obtain ⟨ta, p1, q1⟩ := h X ok
      exact ⟨ta, pe_one p1, fun H0 F0 ρ σ τ H r Q hI hv he q => q1 _ _ _ _ _ _ r _ hI (fun c => hv (by simp [anyC, c])) he q⟩
    | @cons d' ds' p' ps' h' pl' t' =>
      obtain ⟨ta, p1, q1⟩ := h X ok
      obtain ⟨tb, p2, q2⟩ := ih X ok
      refine ⟨_, pe_or p1 p2, fun H0 F0 ρ σ τ H r Q hI hv he q => ?_⟩
      simp only [orVals] at he
      obtain ⟨ra, e1, he⟩ := obind he
      refine q1 _ _ _ _ _ _ ra _ hI (fun c => hv (by simp [anyC, c])) e1 fun v H1 hI1 l1 => ?_
      obtain ⟨t0, o0, ρ0⟩ := ra
      cases t0 with
      | bl b =>
        refine ⟨b, hI1.isBl, ?_⟩
        cases b with
        | false => exact iteF (q2 _ _ _ _ _ _ r _ hI1.drop (fun c => hv (by simp only [anyC, Bool.or_eq_true] at c ⊢; exact .inr c)) he q)
        | true => cases he; exact iteT (q _ _ (hI1.drop.bl _) (nolink rfl))
      | _ => cases he
/-- tests of each of some -/
inductive STs (P : Program) (w : World) (K : PySem.W.Frag) (mg : Str → Option Value) (base : Heap) (k : Nat) (N : List Str) (sc : Scope) : List Den → List Expr → Prop
  | nil : STs P w K mg base k N sc [] []
  | cons {d : Den} {ds : List Den} {p : Expr} {ps : List Expr} (h : ST P w K mg base k N sc d p) (t : STs P w K mg base k N sc ds ps) : STs P w K mg base k N sc (d :: ds) (p :: ps)
theorem pw_andL {ds : List Den} {ps : List Expr} {pos : Pos} (h : STs P w K mg base k N sc ds ps) : ∀ X, XOk P w K mg base k N sc X → ∃ t, PW X (.BoolOp .And ps pos) t ∧ ∀ H0 F0 ρ σ τ H r Q, I K H0 F0 ρ σ τ H → (anyC ds = true → NoV τ) → andTs ds ρ = some r →
    (∀ H', I K H0 F0 r.2 σ τ H' → Q r.1 H') → t σ H Q := by
  induction h with
  | nil => exact fun X ok => ⟨fun _ _ _ => False, ⟨fun _ _ _ _ _ _ _ z => z.elim⟩, fun H0 F0 ρ σ τ H r Q hI hv he q => by cases he⟩
  | @cons d ds p ps h t ih =>
    intro X ok
    cases t with
    | nil =>
      obtain ⟨ta, p1, q1⟩ := h X ok
      exact ⟨ta, pw_and1 p1, fun H0 F0 ρ σ τ H r Q hI hv he q => q1 _ _ _ _ _ _ r _ hI (fun c => hv (by simp [anyC, c])) he q⟩
    | @cons d' ds' p' ps' h' t' =>
      obtain ⟨ta, p1, q1⟩ := h X ok
      obtain ⟨tb, p2, q2⟩ := ih X ok
      refine ⟨_, pw_and p1 p2, fun H0 F0 ρ σ τ H r Q hI hv he q => ?_⟩
      simp only [andTs] at he
      obtain ⟨ra, e1, he⟩ := obind he
      refine q1 _ _ _ _ _ _ ra _ hI (fun c => hv (by simp [anyC, c])) e1 fun H1 hI1 => ?_
      obtain ⟨b, ρ0⟩ := ra
      cases b with
      | true => exact iteT (q2 _ _ _ _ _ _ r _ hI1 (fun c => hv (by simp only [anyC, Bool.or_eq_true] at c ⊢; exact .inr c)) he q)
      | false => cases he; exact iteF (q _ hI1)
theorem pw_orL {ds : List Den} {ps : List Expr} {pos : Pos} (h : STs P w K mg base k N sc ds ps) : ∀ X, XOk P w K mg base k N sc X → ∃ t, PW X (.BoolOp .Or ps pos) t ∧ ∀ H0 F0 ρ σ τ H r Q, I K H0 F0 ρ σ τ H → (anyC ds = true → NoV τ) → orTs ds ρ = some r →
    (∀ H', I K H0 F0 r.2 σ τ H' → Q r.1 H') → t σ H Q := by
  induction h with
  | nil => exact fun X ok => ⟨fun _ _ _ => False, ⟨fun _ _ _ _ _ _ _ z => z.elim⟩, fun H0 F0 ρ σ τ H r Q hI hv he q => by cases he⟩
  | @cons d ds p ps h t ih =>
    intro X ok
    cases t with
    | nil =>
      obtain ⟨ta, p1, q1⟩ := h X ok
      exact ⟨ta, pw_or1 p1, fun H0 F0 ρ σ τ H r Q hI hv he q => q1 _ _ _ _ _ _ r _ hI (fun c => hv (by simp [anyC, c])) he q⟩
    | @cons d' ds' p' ps' h' t' =>
      obtain ⟨ta, p1, q1⟩ := h X ok
      obtain ⟨tb, p2, q2⟩ := ih X ok
      refine ⟨_, pw_or p1 p2, fun H0 F0 ρ σ τ H r Q hI hv he q => ?_⟩
      simp only [orTs] at he
      obtain ⟨ra, e1, he⟩ := obind he
      refine q1 _ _ _ _ _ _ ra _ hI (fun c => hv (by simp [anyC, c])) e1 fun H1 hI1 => ?_
      obtain ⟨b, ρ0⟩ := ra
      cases b with
      | false => exact iteF (q2 _ _ _ _ _ _ r _ hI1 (fun c => hv (by simp only [anyC, Bool.or_eq_true] at c ⊢; exact .inr c)) he q)
      | true => cases he; exact iteT (q _ hI1)
theorem st_and {es : List E} {ps : List Expr} {pos : Pos} (h : STs P w K mg base k N sc (denL G C es) ps) : ST P w K mg base k N sc (den G C (.andv es)) (.BoolOp .And ps pos) := fun X ok => by
  obtain ⟨t, p, q⟩ := pw_andL (pos := pos) h X ok
  exact ⟨t, p.pt, fun H0 F0 ρ σ τ H r Q hI hv he => q _ _ _ _ _ _ r _ hI (fun c => hv (by simpa only [den, tstD] using c)) (by simpa only [den, tstD] using he)⟩
theorem st_or {es : List E} {ps : List Expr} {pos : Pos} (h : STs P w K mg base k N sc (denL G C es) ps) : ST P w K mg base k N sc (den G C (.orv es)) (.BoolOp .Or ps pos) := fun X ok => by
  obtain ⟨t, p, q⟩ := pw_orL (pos := pos) h X ok
  exact ⟨t, p.pt, fun H0 F0 ρ σ τ H r Q hI hv he => q _ _ _ _ _ _ r _ hI (fun c => hv (by simpa only [den, tstD] using c)) (by simpa only [den, tstD] using he)⟩
theorem sv_ife {c a b : E} {pc pa pb : Expr} {pos : Pos} (hc : ST P w K mg base k N sc (den G C c) pc) (ha : SV P w K mg base k N sc (den G C a) pa) (hb : SV P w K mg base k N sc (den G C b) pb) : SV P w K mg base k N sc (den G C (.ife c a b)) (.IfExp pc pa pb pos) := fun X ok => by
  obtain ⟨tc, p0, q0⟩ := hc X ok
  obtain ⟨ta, p1, q1⟩ := ha X ok
  obtain ⟨tb, p2, q2⟩ := hb X ok
  refine ⟨_, pe_ifExp p0 p1 p2, fun H0 F0 ρ σ τ H r Q hI hv he q => ?_⟩
  simp only [den, tstD] at he
  obtain ⟨⟨c, ρ1⟩, e0, he⟩ := obind he
  refine q0 _ _ _ _ _ _ _ _ hI (fun c => hv (by simp [den, tstD, c])) e0 fun H1 hI1 => ?_
  cases c with
  | true =>
    obtain ⟨r0, e1, e2⟩ := obind he
    refine iteT (q1 _ _ _ _ _ _ r0 _ hI1 (fun c => hv (by simp [den, tstD, c])) e1 fun v H2 hI2 l2 => ?_)
    obtain ⟨nv, h⟩ := hI2.val e2 l2
    exact q _ _ h (nolink nv)
  | false =>
    obtain ⟨r0, e1, e2⟩ := obind he
    refine iteF (q2 _ _ _ _ _ _ r0 _ hI1 (fun c => hv (by simp [den, tstD, c])) e1 fun v H2 hI2 l2 => ?_)
    obtain ⟨nv, h⟩ := hI2.val e2 l2
    exact q _ _ h (nolink nv)
theorem sv_tup {es : List E} {ps : List Expr} {n : Nat} {pos : Pos} (h : SVs P w K mg base k N sc (denL G C es) ps) : SV P w K mg base k N sc (den G C (.tup es)) (.Tuple ps n pos) := fun X ok => by
  obtain ⟨t, p, q⟩ := pa_L h X ok
  refine ⟨_, pe_tup p, fun H0 F0 ρ σ τ H r Q hI hv he qq => ?_⟩
  simp only [den, valD] at he
  obtain ⟨x, e1, he⟩ := obind he
  split at he
  · rename_i hl
    cases he
    refine q _ _ _ _ _ _ x _ hI hv e1 fun vs H1 hI1 l1 => ⟨by omega, fun p hp => ?_⟩
    have ho : gO x.2.1 = .full ∨ gO x.2.1 = .cold := by unfold gO; split <;> simp
    have h2 := I.newTup hI1 ho hp
    have ek : kidO x.2.1 = gO x.2.1 := by
      rcases evL_own e1 with e | e <;> rw [e] <;> rfl
    rw [← ek] at h2 ho
    exact qq _ _ (I.mkR h2) (nolink (mk_view (by rcases ho with e | e <;> rw [e] <;> rfl)))
  · cases he
theorem sv_lst {es : List E} {ps : List Expr} {pos : Pos} (h : SVs P w K mg base k N sc (denL G C es) ps) : SV P w K mg base k N sc (den G C (.lst es)) (.List ps pos) := fun X ok => by
  obtain ⟨t, p, q⟩ := pa_L h X ok
  refine ⟨_, pe_lst p, fun H0 F0 ρ σ τ H r Q hI hv he qq => ?_⟩
  simp only [den, valD] at he
  obtain ⟨x, e1, he⟩ := obind he
  split at he
  · rename_i hl
    cases he
    refine q _ _ _ _ _ _ x _ hI hv e1 fun vs H1 hI1 l1 => ⟨by omega, fun p hp => ?_⟩
    refine qq _ _ (hI1.fin ?_ hp) (nolink ?_)
    · rcases evL_own e1 with e | e <;> rw [e]
      · exact .inl ⟨rfl, rfl⟩
      · exact .inr ⟨rfl, rfl⟩
    · rcases evL_own e1 with e | e <;> rw [e] <;> rfl
  · cases he
theorem atI_both {α β : Type} {xs : List α} {ys : List β} {i : Int} {x : α} (hl : xs.length = ys.length) (e : atI xs i = some x) : ∃ j : Nat, xs[j]? = some x ∧ ∀ y, ys[j]? = some y → atI ys i = some y := by
  unfold atI at e
  obtain ⟨j, e1, e2⟩ := obind e
  exact ⟨j, e2, fun y e3 => by unfold atI; rw [← hl, e1]; exact e3⟩
/-- an item of what is on top -/
theorem ix_ok {i : Int} {y : T} (h : I K H0 F0 ρ σ (g1 o t va :: τ) H) (e : ixV t (.int i) = some y) (hq : ∀ v, I K H0 F0 ρ σ (g1 (kidR o) y v :: τ) H → Q v H) : rIx K va (.int i) H Q := by
  cases t with
  | lst xs =>
    obtain ⟨a, ws, rfl, rd, hl, h2, _⟩ := h.kidsL
    obtain ⟨j, e1, e2⟩ := atI_both hl e
    obtain ⟨v, ev, h3⟩ := h2.pick e1
    exact .inl ⟨a, ws, i, v, rfl, rfl, .inl rd, e2 v ev, hq v h3⟩
  | tup xs =>
    obtain ⟨a, ws, rfl, rd, hl, h2⟩ := h.kidsT
    obtain ⟨j, e1, e2⟩ := atI_both hl e
    obtain ⟨v, ev, h3⟩ := h2.pick e1
    exact .inr (.inl ⟨a, ws, i, v, rfl, rfl, rd, e2 v ev, hq v h3⟩)
  | str s =>
    obtain ⟨rfl, a⟩ := h.isStr
    obtain ⟨c, e1, rfl⟩ := omap e
    refine .inr (.inr ⟨_, i, c, rfl, rfl, a.1, e1, hq _ ?_⟩)
    obtain ⟨j, e2, _⟩ := atI_both (ys := s) rfl e1
    have hc : c < 128 := a.2 c (List.mem_of_getElem? e2)
    have h1 : 1 ≤ sizeLine := by show 1 ≤ 2 ^ 24; decide
    exact I.nl (o := .full) (h.drop.str (x := [c]) ⟨h1, fun d m => by simp at m; subst m; exact hc⟩) rfl
  | _ => cases e
theorem sv_ix {a i : E} {pa pi : Expr} {pos : Pos} (ha : SV P w K mg base k N sc (den G C a) pa) (hi : SV P w K mg base k N sc (den G C i) pi) (hp : PlainIx pi) : SV P w K mg base k N sc (den G C (.ix a i)) (.Subscript pa pi pos) := fun X ok => by
  obtain ⟨ta, p1, q1⟩ := ha X ok
  obtain ⟨tb, p2, q2⟩ := hi X ok
  refine ⟨_, pe_ix ix_seq p1 p2 hp, fun H0 F0 ρ σ τ H r Q hI hv he q => ?_⟩
  simp only [den, valD] at he
  obtain ⟨r0, e1, he⟩ := obind he
  obtain ⟨ra, e0, he⟩ := obind he
  obtain ⟨ri, e2, he⟩ := obind he
  refine q1 _ _ _ _ _ _ r0 _ hI (fun c => hv (by simp [den, valD, c])) e1 fun v H1 hI0 l0 => ?_
  obtain ⟨hI1, l1, n1⟩ := hI0.vo e0 l0
  refine q2 _ _ _ _ _ _ ri _ hI1 (fun c => (hv (by simp [den, valD, c])).cons (n1 c)) e2 fun v2 H2 hI2 l2 => ?_
  unfold pickR at he
  obtain ⟨y, ey, he⟩ := obind he
  dsimp only at ey
  have ⟨i, ei⟩ : ∃ i, ri.t = .int i := by
    unfold ixV at ey
    split at ey
    · rename_i h; exact ⟨_, h⟩
    · rename_i h; exact ⟨_, h⟩
    · rename_i h; exact ⟨_, h⟩
    · cases ey
  rw [ei] at ey he hI2
  rw [hI2.isInt, ok.K_]
  split at he
  · rename_i n
    cases he
    exact ix_ok hI2.drop ey fun v h => q v _ (h.nl n) (nolink rfl)
  · obtain ⟨x, e3, he⟩ := obind he
    obtain ⟨z, e4, rfl⟩ := omap he
    exact ix_ok (hI2.drop.re e3 l1) e4 fun v h => q v _ h (nolink rfl)
theorem RpL.drop {c : Own} (hc : c = .cold ∨ c.isView = true) : ∀ {xs : List T} {vs : List V} (n : Nat), RpL K F H c xs vs [] → RpL K F H c (xs.drop n) (vs.drop n) []
  | _, _, 0, h => by simpa using h
  | [], [], n + 1, h => by simpa using h
  | x :: xs, v :: vs, n + 1, h => by
    simp only [RpL] at h
    obtain ⟨f1, f2, h1, h2, e⟩ := h
    have e2 := RpL.none_of hc h2
    subst e2
    simpa using RpL.drop hc n h2
  | [], _ :: _, _ + 1, h => by simp [RpL] at h
  | _ :: _, [], _ + 1, h => by simp [RpL] at h
theorem RpL.take {c : Own} (hc : c = .cold ∨ c.isView = true) : ∀ {xs : List T} {vs : List V} (n : Nat), RpL K F H c xs vs [] → RpL K F H c (xs.take n) (vs.take n) []
  | _, _, 0, h => by simp [RpL]
  | [], [], n + 1, h => by simpa using h
  | x :: xs, v :: vs, n + 1, h => by
    simp only [RpL] at h
    obtain ⟨f1, f2, h1, h2, e⟩ := h
    have e1 := Rp.none_of hc h1
    have e2 := RpL.none_of hc h2
    subst e1 e2
    simp only [List.take_succ_cons, RpL]
    exact ⟨[], [], h1, RpL.take hc n h2, rfl⟩
  | [], _ :: _, _ + 1, h => by simp [RpL] at h
  | _ :: _, [], _ + 1, h => by simp [RpL] at h
theorem RpL.rev {c : Own} (hc : c = .cold ∨ c.isView = true) : ∀ {xs : List T} {vs : List V}, RpL K F H c xs vs [] → RpL K F H c xs.reverse vs.reverse []
  | [], [], h => by simpa using h
  | x :: xs, v :: vs, h => by
    simp only [RpL] at h
    obtain ⟨f1, f2, h1, h2, e⟩ := h
    have e1 := Rp.none_of hc h1
    have e2 := RpL.none_of hc h2
    subst e1 e2
    simp only [List.reverse_cons]
    exact RpL.append (RpL.rev hc h2) (RpL.one.mpr h1)
  | [], _ :: _, h => by simp [RpL] at h
  | _ :: _, [], h => by simp [RpL] at h
/-- other items of a group: shared ones, or such without lists -/
theorem I.cutC {xs ys : List T} {ws zs : List V} (h : I K H0 F0 ρ σ (⟨.cold, xs, ws⟩ :: τ) H) (f : ∀ F o, o = .cold ∨ o.isView = true → RpL K F H o xs ws [] → RpL K F H o ys zs []) : I K H0 F0 ρ σ (⟨.cold, ys, zs⟩ :: τ) H :=
  h.map fun F fp s q => by
    have e := RpL.none_of (.inl rfl) q
    subst e
    exact ⟨[], f F _ (.inl rfl) q, List.nil_sublist _⟩
theorem I.cutN {xs ys : List T} {ws zs : List V} {c : Own} (h : I K H0 F0 ρ σ (⟨c, xs, ws⟩ :: τ) H) (n : nlL ys = true) (f : ∀ F o, o = .cold ∨ o.isView = true → RpL K F H o xs ws [] → RpL K F H o ys zs []) : I K H0 F0 ρ σ (⟨.full, ys, zs⟩ :: τ) H :=
  h.map fun F fp s q => ⟨[], RpL.allFull n (f F (.view 0) (.inr rfl) (RpL.view s 0 q)), List.nil_sublist _⟩
theorem RpL.cut {c : Own} (hc : c = .cold ∨ c.isView = true) {xs : List T} {vs : List V} (lo hi : Option Int) (h : RpL K F H c xs vs []) : RpL K F H c (cutT xs lo hi) (cutV vs lo hi) [] := by
  unfold cutT cutV
  rw [← h.len]
  exact RpL.take hc _ (RpL.drop hc _ h)
/-- an end of a slice -/
theorem po_ok {ds : List Den} {po : Option Expr} (h : SVs P w K mg base k N sc ds po.toList) : ∀ X, XOk P w K mg base k N sc X → ∃ t, PO X po t ∧ ∀ H0 F0 ρ σ τ H r Q, I K H0 F0 ρ σ τ H → (anyC ds = true → NoV τ) → evO ds ρ = some r → (∀ H', I K H0 F0 r.2 σ τ H' → Q r.1 H') → t σ H Q := by
  intro X ok
  cases po with
  | none =>
    cases h
    exact ⟨tNoPart, po_none, fun H0 F0 ρ σ τ H r Q hI hv he q => by cases he; exact q H hI⟩
  | some p =>
    cases h with
    | cons h pl t =>
      cases t
      obtain ⟨t1, p1, q1⟩ := h X ok
      refine ⟨_, po_some p1, fun H0 F0 ρ σ τ H r Q hI hv he q => ?_⟩
      simp only [evO] at he
      obtain ⟨ra, e1, he⟩ := obind he
      refine q1 _ _ _ _ _ _ ra _ hI (fun c => hv (by simp [anyC, c])) e1 fun v H1 hI1 l1 => ?_
      obtain ⟨t0, o0, ρ0⟩ := ra
      cases t0 with
      | int i => cases he; exact ⟨i, hI1.isInt, q _ hI1.drop⟩
      | _ => cases he
def rSl (K : PySem.W.Frag) : V → Option Int → Option Int → Hp → VK → Prop := fun x lo hi H Q => rSlL K x lo hi H Q ∨ rSlT K x lo hi H Q ∨ rSlS x lo hi H Q
theorem sl_any : SlR X (rSl X.K) := sl_list.or (sl_tup.or sl_str)
theorem cutS_ok (s : List Nat) (lo hi : Option Int) : cutS ⟨s.toArray⟩ lo hi = ⟨(cutT s lo hi).toArray⟩ := by
  simp [cutS, cutT, Str.length]
theorem cutT_ascii {s : List Nat} (h : Ascii s) (lo hi : Option Int) : Ascii (cutT s lo hi) := by
  unfold cutT
  refine ⟨Nat.le_trans (by simp only [List.length_take, List.length_drop]; omega) h.1, fun c m => h.2 c (List.mem_of_mem_drop (List.mem_of_mem_take m))⟩
theorem cutT_all {α : Type} {xs : List α} {lo hi : Option Int} (h : ¬ (cutT xs lo hi).length = xs.length) : ¬ (HT.sIx xs.length 0 lo = 0 ∧ HT.sIx xs.length xs.length hi = xs.length) := fun ⟨a, b⟩ => h (by
  unfold cutT
  rw [a, b]
  simp)
theorem slice_ok {lo hi : Option Int} (h : I K H0 F0 ρ σ (g1 o t va :: τ) H) (he : shareR1 (slV lo hi) t o ρ = some r) (la : ∀ i, o = .view i → σ[i]? = some (some va))
    (hq : ∀ v H', I K H0 F0 r.ρ σ (g1 r.o r.t v :: τ) H' → r.o.isView = false → Q v H') : rSl K va lo hi H Q := by
  rcases share1 h he la with ⟨y, ey, er, hn⟩ | ⟨t', ey, hz, h'⟩
  · subst er
    cases t with
    | lst xs =>
      cases ey
      obtain ⟨a, ws, rfl, rd, hl, h2, _⟩ := h.kidsL
      rcases hn with hn | ⟨ys, ez, hn⟩
      · simp [T.nl] at hn
      · cases ez
        exact .inl ⟨a, ws, rfl, .inl rd, fun p hp => hq _ _ ((I.cutN h2 hn fun F o ho => RpL.cut ho lo hi).fin (.inl ⟨rfl, rfl⟩) hp) rfl⟩
    | str s =>
      cases ey
      obtain ⟨rfl, a⟩ := h.isStr
      refine .inr (.inr ⟨_, rfl, a.1, ?_⟩)
      rw [cutS_ok]
      exact hq _ _ (h.drop.str (cutT_ascii a _ _)) rfl
    | tup xs =>
      simp only [slV] at ey
      split at ey
      · cases ey
      · rename_i hc
        cases ey
        obtain ⟨a, ws, rfl, rd, hl, h2⟩ := h.kidsT
        rcases hn with hn | ⟨ys, ez, hn⟩
        · have nc := cutT_all hc
          rw [hl] at nc
          exact .inr (.inl ⟨a, ws, rfl, rd, nc, fun p hp => hq _ _ ((I.cutN h2 (by simpa [T.nl] using hn) fun F o ho => RpL.cut ho lo hi).finT (.inl ⟨rfl, rfl⟩) hp) rfl⟩)
        · cases ez
    | _ => cases ey
  · obtain ⟨t0, o0, ρ0⟩ := r
    cases t' with
    | lst xs =>
      rcases hz with ⟨zs, e1, e2⟩ | ⟨zs, e1, e2⟩ <;> cases e1 <;> cases e2 <;> cases ey
      obtain ⟨a, ws, rfl, rd, hl, h2, _⟩ := h'.kidsL
      exact .inl ⟨a, ws, rfl, .inl rd, fun p hp => hq _ _ ((I.cutC h2 fun F o ho => RpL.cut ho lo hi).fin (.inr ⟨rfl, rfl⟩) hp) rfl⟩
    | tup xs =>
      simp only [slV] at ey
      split at ey
      · cases ey
      · rename_i hc
        rcases hz with ⟨zs, e1, e2⟩ | ⟨zs, e1, e2⟩ <;> cases e1 <;> cases e2 <;> cases ey
        obtain ⟨a, ws, rfl, rd, hl, h2⟩ := h'.kidsT
        have nc := cutT_all hc
        rw [hl] at nc
        exact .inr (.inl ⟨a, ws, rfl, rd, nc, fun p hp => hq _ _ ((I.cutC h2 fun F o ho => RpL.cut ho lo hi).finT (.inr ⟨rfl, rfl⟩) hp) rfl⟩)
    | str s =>
      cases ey
      rcases hz with ⟨zs, e1, e2⟩ | ⟨zs, e1, e2⟩ <;> cases e1
    | _ => cases ey
theorem sv_sl {a : E} {lo hi : List E} {pa : Expr} {plo phi : Option Expr} {p2 pos : Pos} (ha : SV P w K mg base k N sc (den G C a) pa) (hl : SVs P w K mg base k N sc (denL G C lo) plo.toList) (hh : SVs P w K mg base k N sc (denL G C hi) phi.toList) :
    SV P w K mg base k N sc (den G C (.sl a lo hi)) (.Subscript pa (.Slice plo phi none p2) pos) := fun X ok => by
  obtain ⟨ta, p1, q1⟩ := ha X ok
  obtain ⟨tl, pl, ql⟩ := po_ok hl X ok
  obtain ⟨th, ph, qh⟩ := po_ok hh X ok
  refine ⟨_, pe_slice sl_any p1 pl ph, fun H0 F0 ρ σ τ H r Q hI hv he q => ?_⟩
  simp only [den, valD] at he
  obtain ⟨r0, e1, he⟩ := obind he
  obtain ⟨ra, e0, he⟩ := obind he
  obtain ⟨rl, e2, he⟩ := obind he
  obtain ⟨rh, e3, he⟩ := obind he
  refine q1 _ _ _ _ _ _ r0 _ hI (fun c => hv (by simp [den, valD, c])) e1 fun v H1 hI0 l0 => ?_
  obtain ⟨hI1, l1, n1⟩ := hI0.vo e0 l0
  refine ql _ _ _ _ _ _ rl _ hI1 (fun c => (hv (by simp [den, valD, c])).cons (n1 (by simp [c]))) e2 fun H2 hI2 => ?_
  refine qh _ _ _ _ _ _ rh _ hI2 (fun c => (hv (by simp [den, valD, c])).cons (n1 (by simp [c]))) e3 fun H3 hI3 => ?_
  rw [ok.K_]
  exact slice_ok hI3 he l1 fun v H' h nv => q v H' h (nolink nv)
theorem sv_rev {a : E} {pa : Expr} {n : Nat} {p1 p2 p3 pos : Pos} (ha : SV P w K mg base k N sc (den G C a) pa) : SV P w K mg base k N sc (den G C (.rev a)) (.Subscript pa (.Slice none none (some (.UnaryOp .USub (.Constant (.int 1) n p1) p2)) p3) pos) := fun X ok => by
  obtain ⟨ta, pp, q1⟩ := ha X ok
  refine ⟨_, pe_revL pp, fun H0 F0 ρ σ τ H r Q hI hv he q => ?_⟩
  simp only [den, valD] at he
  obtain ⟨ra, e1, he⟩ := obind he
  refine q1 _ _ _ _ _ _ ra _ hI hv e1 fun v H1 hI1 l1 => ?_
  rcases share1 hI1 he l1 with ⟨y, ey, er, hn⟩ | ⟨t', ey, hz, h'⟩
  · subst er
    obtain ⟨t0, o0, ρ0⟩ := ra
    cases t0 with
    | lst xs =>
      cases ey
      obtain ⟨a, ws, rfl, rd, hl, h2, _⟩ := hI1.kidsL
      rcases hn with hn | ⟨ys, ez, hn⟩
      · simp [T.nl] at hn
      · cases ez
        exact ⟨a, ws, rfl, .inl rd, fun p hp => q _ _ ((I.cutN h2 hn fun F o ho => RpL.rev ho).fin (.inl ⟨rfl, rfl⟩) hp) (nolink rfl)⟩
    | _ => cases ey
  · obtain ⟨t0, o0, ρ0⟩ := r
    cases t' with
    | lst xs =>
      rcases hz with ⟨zs, e1, e2⟩ | ⟨zs, e1, e2⟩ <;> cases e1 <;> cases e2 <;> cases ey
      obtain ⟨a, ws, rfl, rd, hl, h2, _⟩ := h'.kidsL
      exact ⟨a, ws, rfl, .inl rd, fun p hp => q _ _ ((I.cutC h2 fun F o ho => RpL.rev ho).fin (.inr ⟨rfl, rfl⟩) hp) (nolink rfl)⟩
    | _ => cases ey
end
end Ev
namespace Ev
open PySem PySem.Spec PyProof.Rows L2
def rNo : List V → Hp → VK → Prop := fun _ _ _ => False
def rLen (K : PySem.W.Frag) : List V → Hp → VK → Prop := fun xs H Q => (∃ p ys, xs = [.ref p] ∧ (SqL K H p ys ∨ SqT K H p ys) ∧ Q (.int ys.length) H) ∨ ∃ z, xs = [.str z] ∧ z.length ≤ sizeLine ∧ Q (.int z.length) H
def rAbs : List V → Hp → VK → Prop := fun xs H Q => ∃ i, xs = [.int i] ∧ Q (.int (if i < 0 then -i else i)) H
def rInt : List V → Hp → VK → Prop := fun xs H Q => (∃ i, xs = [.int i] ∧ Q (.int i) H) ∨ ∃ k, xs = [.bl k] ∧ Q (.int (if k then 1 else 0)) H
def rBool : List V → Hp → VK → Prop := fun xs H Q => (∃ i, xs = [.int i] ∧ Q (.bl (i != 0)) H) ∨ ∃ k, xs = [.bl k] ∧ Q (.bl k) H
def rListOf (K : PySem.W.Frag) : List V → Hp → VK → Prop := fun xs H Q => ∃ p ys, xs = [.ref p] ∧ (SqL K H p ys ∨ SqT K H p ys) ∧ ∀ l, H l = none → Q (.ref l) (upd H l (.lst ys))
def rTupOf (K : PySem.W.Frag) : List V → Hp → VK → Prop := fun xs H Q => ∃ p ys, xs = [.ref p] ∧ ((SqL K H p ys ∧ ∀ l, H l = none → Q (.ref l) (upd H l (.tup ys))) ∨ (SqT K H p ys ∧ Q (.ref p) H))
def rMax2 : List V → Hp → VK → Prop := fun xs H Q => ∃ i j, xs = [.int i, .int j] ∧ Q (.int (if j > i then j else i)) H
def rMin2 : List V → Hp → VK → Prop := fun xs H Q => ∃ i j, xs = [.int i, .int j] ∧ Q (.int (if j < i then j else i)) H
def rOrd : List V → Hp → VK → Prop := fun xs H Q => ∃ x, xs = [.str x] ∧ x.length = 1 ∧ Q (.int (x.cps.getD 0 0 : Nat)) H
def rF (K : PySem.W.Frag) : BF → List V → Hp → VK → Prop
  | .len => rLen K | .abs => rAbs | .int => rInt | .bool => rBool | .str => rNo | .list => rListOf K | .tuple => rTupOf K
  | .sum => rSum K | .any => rAny K | .all => rAll K | .gcd => rGcd | .max2 => rMax2 | .min2 => rMin2 | .max => rMax K | .min => rMin K | .sorted => rNo | .ord => rOrd | .chr => rNo
section
variable {P : Program} {w : World} {K : PySem.W.Frag} {mg : Str → Option Value} {base : Heap} {k : Nat} {N : List Str} {sc : Scope} {U : BF → Bool} {G : List Nat → Option T} {C : List Nat → List T → Option (T × Own)}
variable {X : Cx} {H0 F0 H H' F : Hp} {ρ ρ' : Env} {σ : L2.St} {τ : List Gp} {t u y : T} {o q : Own} {va vb v : V} {r : R} {Q : VK}
theorem SVs.head {ds : List Den} {p : Expr} {ps : List Expr} (h : SVs P w K mg base k N sc ds (p :: ps)) : Plain p ∧ ∃ ds', SVs P w K mg base k N sc ds' ps := by
  cases h with
  | cons _ pl t => exact ⟨pl, _, t⟩
theorem starNo {ds : List Den} {ps : List Expr} (h : SVs P w K mg base k N sc ds ps) (env : PySem.Env) (pos : Pos) : (backTo pos (starEach ps env)).any (·.1) = false := by
  induction h with
  | nil => rfl
  | cons _ pl _ ih =>
    rw [pl.star]
    simp only [backTo, List.map_cons, List.any_cons, Bool.false_or]
    exact ih
theorem call_no {f : Value} : CallR X f rNo := fun _ _ _ _ _ _ _ _ _ h => h.elim
theorem pe_blt {f : BF} {p0 : Pos} {p : Expr} {ps : List Expr} {pos : Pos} {ta : TA} (M : MOk K mg U G) (ok : XOk P w K mg base k N sc X) (hu : U f = true) (hg : sc.names.lookup f.nm = some .globalImplicit) (hd : (f.nm == ("__debug__" : Str)) = false) (hn : f.nm ≠ "__name__")
    (ha : PA X (p :: ps) ta) (he : starEach (p :: ps) X.env = (false, eval p X.env) :: starEach ps X.env) (hpl : (backTo pos (starEach ps X.env)).any (·.1) = false) :
    PE X (.Call (.Name f.nm p0) (p :: ps) [] pos) (tCB (rF K f) ta) := by
  have hg' : Gl X f.nm := ok.gl hg
  have no : f ≠ .gcd → X.mg f.nm = none := fun h => by rw [ok.mg_]; exact M.blt f hu h
  have eK := ok.K_
  subst eK
  cases f with
  | len => exact pe_callB (call_len_seq.or call_len_str) hg' (no (by simp)) (by decide +kernel) ha hn hd he hpl
  | abs => exact pe_callB call_abs hg' (no (by simp)) (by decide +kernel) ha hn hd he hpl
  | int => exact pe_callTy call_int1 hg' (no (by simp)) (by decide +kernel) ha hn hd he hpl
  | bool => exact pe_callTy call_bool1 hg' (no (by simp)) (by decide +kernel) ha hn hd he hpl
  | str => exact pe_callTy (T := "str") call_no hg' (no (by simp)) (by decide +kernel) ha hn hd he hpl
  | list => exact pe_callTy call_list_of hg' (no (by simp)) (by decide +kernel) ha hn hd he hpl
  | tuple => exact pe_callTy call_tuple_of hg' (no (by simp)) (by decide +kernel) ha hn hd he hpl
  | sum => exact pe_callB (cr_sum ok.calm) hg' (no (by simp)) (by decide +kernel) ha hn hd he hpl
  | any => exact pe_callB (cr_any ok.calm) hg' (no (by simp)) (by decide +kernel) ha hn hd he hpl
  | all => exact pe_callB (cr_all ok.calm) hg' (no (by simp)) (by decide +kernel) ha hn hd he hpl
  | gcd => exact pe_callBfun cr_gcd hg' (by rw [ok.mg_]; exact M.gcd hu) ha hd he hpl
  | max2 => exact pe_callB (call_max2 ok.calm) hg' (no (by simp)) (by decide +kernel) ha hn hd he hpl
  | min2 => exact pe_callB (call_min2 ok.calm) hg' (no (by simp)) (by decide +kernel) ha hn hd he hpl
  | max => exact pe_callB (cr_max ok.calm) hg' (no (by simp)) (by decide +kernel) ha hn hd he hpl
  | min => exact pe_callB (cr_min ok.calm) hg' (no (by simp)) (by decide +kernel) ha hn hd he hpl
  | sorted => exact pe_callB (id := "sorted") call_no hg' (no (by simp)) (by decide +kernel) ha hn hd he hpl
  | ord => exact pe_callB call_ord hg' (no (by simp)) (by decide +kernel) ha hn hd he hpl
  | chr => exact pe_callB (id := "chr") call_no hg' (no (by simp)) (by decide +kernel) ha hn hd he hpl
theorem I.unstk : ∀ {ts : List T} {os : List Own} {vs : List V} {τ : List Gp}, I K H0 F0 ρ σ (stk ts os vs τ) H → I K H0 F0 ρ σ τ H
  | t :: ts, o :: os, v :: vs, τ, h => (I.unstk (ts := ts) (os := os) (vs := vs) h).drop
  | [], _, _, _, h => h
  | _ :: _, [], _, _, h => h
  | _ :: _, _ :: _, [], _, h => h
theorem ints_of : ∀ {xs : List T} {ws : List V} {o : Own} {fp : List Addr} {ns : List Int}, RpL K F H o xs ws fp → intsV xs = some ns → ws = ns.map V.int
  | [], [], _, _, _, _, e => by cases e; rfl
  | x :: xs, w :: ws, o, fp, ns, h, e => by
    simp only [RpL] at h
    obtain ⟨f1, f2, h1, h2, _⟩ := h
    cases x with
    | int i =>
      obtain ⟨ms, e', rfl⟩ := omap e
      simp only [Rp] at h1
      rw [h1.1, ints_of h2 e']
      rfl
    | _ => cases e
  | [], _ :: _, _, _, _, h, _ => by simp [RpL] at h
  | _ :: _, [], _, _, _, h, _ => by simp [RpL] at h
theorem bls_of : ∀ {xs : List T} {ws : List V} {o : Own} {fp : List Addr} {ns : List Bool}, RpL K F H o xs ws fp → blsV xs = some ns → ws = ns.map V.bl
  | [], [], _, _, _, _, e => by cases e; rfl
  | x :: xs, w :: ws, o, fp, ns, h, e => by
    simp only [RpL] at h
    obtain ⟨f1, f2, h1, h2, _⟩ := h
    cases x with
    | bl i =>
      obtain ⟨ms, e', rfl⟩ := omap e
      simp only [Rp] at h1
      rw [h1.1, bls_of h2 e']
      rfl
    | _ => cases e
  | [], _ :: _, _, _, _, h, _ => by simp [RpL] at h
  | _ :: _, [], _, _, _, h, _ => by simp [RpL] at h
theorem I.intsL {xs : List T} {ns : List Int} (h : I K H0 F0 ρ σ (g1 o (.lst xs) v :: τ) H) (e : intsV xs = some ns) : ∃ a, v = .ref a ∧ SqL K H a (ns.map V.int) := by
  obtain ⟨a, ws, rfl, rd, hl, h2, _⟩ := h.kidsL
  obtain ⟨F, fp, s, r⟩ := h2.see
  exact ⟨a, rfl, by rw [← ints_of r e]; exact .inl rd⟩
theorem I.blsL {xs : List T} {ns : List Bool} (h : I K H0 F0 ρ σ (g1 o (.lst xs) v :: τ) H) (e : blsV xs = some ns) : ∃ a, v = .ref a ∧ SqL K H a (ns.map V.bl) := by
  obtain ⟨a, ws, rfl, rd, hl, h2, _⟩ := h.kidsL
  obtain ⟨F, fp, s, r⟩ := h2.see
  exact ⟨a, rfl, by rw [← bls_of r e]; exact .inl rd⟩
theorem maxL_ok : ∀ {ns : List Int} {m : Int}, ns ≠ [] → m ∈ ns → (∀ y, y ∈ ns → y ≤ m) → m = maxL ns
  | [x], m, _, hm, _ => by simpa [maxL] using hm
  | x :: y :: r, m, _, hm, hu => by
    have hx : maxL (y :: r) ∈ (y :: r) ∧ ∀ z ∈ (y :: r), z ≤ maxL (y :: r) := maxL_is (by simp)
    simp only [maxL]
    have h1 := hu x (by simp)
    have h2 := hu _ (List.mem_cons_of_mem x hx.1)
    rcases List.mem_cons.mp hm with rfl | hm
    · split
      · rfl
      · omega
    · have h3 := hx.2 m hm
      split <;> omega
where maxL_is : ∀ {ns : List Int}, ns ≠ [] → maxL ns ∈ ns ∧ ∀ z ∈ ns, z ≤ maxL ns
  | [x], _ => by simp [maxL]
  | x :: y :: r, _ => by
    have hx := maxL_is (ns := y :: r) (by simp)
    have e : maxL (x :: y :: r) = if maxL (y :: r) < x then x else maxL (y :: r) := by simp [maxL]
    rw [e]
    refine ⟨?_, fun z hz => ?_⟩
    · split
      · simp
      · exact List.mem_cons_of_mem _ hx.1
    · rcases List.mem_cons.mp hz with rfl | hz
      · split <;> omega
      · have := hx.2 z hz
        split <;> omega
theorem minL_ok : ∀ {ns : List Int} {m : Int}, ns ≠ [] → m ∈ ns → (∀ y, y ∈ ns → m ≤ y) → m = minL ns
  | [x], m, _, hm, _ => by simpa [minL] using hm
  | x :: y :: r, m, _, hm, hu => by
    have hx : minL (y :: r) ∈ (y :: r) ∧ ∀ z ∈ (y :: r), minL (y :: r) ≤ z := minL_is (by simp)
    simp only [minL]
    have h1 := hu x (by simp)
    have h2 := hu _ (List.mem_cons_of_mem x hx.1)
    rcases List.mem_cons.mp hm with rfl | hm
    · split
      · rfl
      · omega
    · have h3 := hx.2 m hm
      split <;> omega
where minL_is : ∀ {ns : List Int}, ns ≠ [] → minL ns ∈ ns ∧ ∀ z ∈ ns, minL ns ≤ z
  | [x], _ => by simp [minL]
  | x :: y :: r, _ => by
    have hx := minL_is (ns := y :: r) (by simp)
    have e : minL (x :: y :: r) = if x < minL (y :: r) then x else minL (y :: r) := by simp [minL]
    rw [e]
    refine ⟨?_, fun z hz => ?_⟩
    · split
      · simp
      · exact List.mem_cons_of_mem _ hx.1
    · rcases List.mem_cons.mp hz with rfl | hz
      · split <;> omega
      · have := hx.2 z hz
        split <;> omega
/-- a built-in's answer that is a number or a truth value -/
theorem blt_atom {f : BF} {ts : List T} {os : List Own} {vs : List V} (h : I K H0 F0 ρ σ (stk ts os vs τ) H) (lk : LkL σ os vs) (hl : ts.length = os.length) (hf : f ≠ .list ∧ f ≠ .tuple) (e : bltV f ts = some y)
    (hq : ∀ v, I K H0 F0 ρ σ (g1 .full y v :: τ) H → Q v H) : rF K f vs H Q := by
  have h0 : I K H0 F0 ρ σ τ H := h.unstk
  have qI : ∀ i, y = .int i → Q (.int i) H := fun i ey => by subst ey; exact hq _ (h0.int i)
  have qB : ∀ i, y = .bl i → Q (.bl i) H := fun i ey => by subst ey; exact hq _ (h0.bl i)
  have one : ∀ t, ts = [t] → ∃ o v, os = [o] ∧ vs = [v] ∧ I K H0 F0 ρ σ (g1 o t v :: τ) H := fun t et => by
    subst et
    cases os with
    | nil => simp at hl
    | cons o os =>
      cases os with
      | cons _ _ => simp at hl
      | nil =>
        cases vs with
        | nil => exact lk.elim
        | cons v vs =>
          cases vs with
          | cons _ _ => exact lk.2.elim
          | nil => exact ⟨o, v, rfl, rfl, h⟩
  have two : ∀ t u, ts = [t, u] → ∃ o q v x, vs = [v, x] ∧ I K H0 F0 ρ σ (g1 q u x :: g1 o t v :: τ) H := fun t u et => by
    subst et
    match os, vs, hl, lk, h with
    | [o, q], [v, x], _, _, h => exact ⟨o, q, v, x, rfl, h⟩
    | [_, _], [], _, lk, _ => exact lk.elim
    | [_, _], [_], _, lk, _ => exact lk.2.elim
    | [_, _], _ :: _ :: _ :: _, _, lk, _ => exact lk.2.2.elim
    | [], _, hl, _, _ => simp at hl
    | [_], _, hl, _, _ => simp at hl
    | _ :: _ :: _ :: _, _, hl, _, _ => simp at hl
  unfold bltV at e
  split at e
  · cases e
    obtain ⟨o, v, rfl, rfl, h⟩ := one _ rfl
    obtain ⟨a, ws, rfl, rd, hl, h2, _⟩ := h.kidsL
    exact .inl ⟨a, ws, rfl, .inl (.inl rd), by rw [← hl]; exact qI _ rfl⟩
  · cases e
    obtain ⟨o, v, rfl, rfl, h⟩ := one _ rfl
    obtain ⟨a, ws, rfl, rd, hl, h2⟩ := h.kidsT
    exact .inl ⟨a, ws, rfl, .inr rd, by rw [← hl]; exact qI _ rfl⟩
  · cases e
    obtain ⟨o, v, rfl, rfl, h⟩ := one _ rfl
    obtain ⟨rfl, a⟩ := h.isStr
    exact .inr ⟨_, rfl, a.1, qI _ rfl⟩
  · cases e
    obtain ⟨o, v, rfl, rfl, h⟩ := one _ rfl
    exact ⟨_, by rw [h.isInt], qI _ rfl⟩
  · cases e
    obtain ⟨o, v, rfl, rfl, h⟩ := one _ rfl
    exact .inl ⟨_, by rw [h.isInt], qI _ rfl⟩
  · cases e
    obtain ⟨o, v, rfl, rfl, h⟩ := one _ rfl
    exact .inr ⟨_, by rw [h.isBl], qI _ rfl⟩
  · cases e
    obtain ⟨o, v, rfl, rfl, h⟩ := one _ rfl
    exact .inl ⟨_, by rw [h.isInt], qB _ rfl⟩
  · cases e
    obtain ⟨o, v, rfl, rfl, h⟩ := one _ rfl
    exact .inr ⟨_, by rw [h.isBl], qB _ rfl⟩
  · exact absurd rfl hf.1
  · exact absurd rfl hf.1
  · exact absurd rfl hf.2
  · obtain ⟨ns, e1, rfl⟩ := omap e
    obtain ⟨o, v, rfl, rfl, h⟩ := one _ rfl
    obtain ⟨a, rfl, r⟩ := h.intsL e1
    exact ⟨a, ns, rfl, r, qI _ rfl⟩
  · obtain ⟨ns, e1, rfl⟩ := omap e
    obtain ⟨o, v, rfl, rfl, h⟩ := one _ rfl
    obtain ⟨a, rfl, r⟩ := h.blsL e1
    exact ⟨a, ns, rfl, r, qB _ rfl⟩
  · obtain ⟨ns, e1, rfl⟩ := omap e
    obtain ⟨o, v, rfl, rfl, h⟩ := one _ rfl
    obtain ⟨a, rfl, r⟩ := h.blsL e1
    exact ⟨a, ns, rfl, r, qB _ rfl⟩
  · rename_i i j
    cases e
    obtain ⟨o, q, v, x, rfl, hh⟩ := two _ _ rfl
    have e1 := hh.isInt
    have e2 := hh.drop.isInt
    exact ⟨i, j, by rw [e1, e2], qI _ rfl⟩
  · rename_i i j
    cases e
    obtain ⟨o, q, v, x, rfl, hh⟩ := two _ _ rfl
    have e1 := hh.isInt
    have e2 := hh.drop.isInt
    exact ⟨i, j, by rw [e1, e2], qI _ rfl⟩
  · rename_i i j
    cases e
    obtain ⟨o, q, v, x, rfl, hh⟩ := two _ _ rfl
    have e1 := hh.isInt
    have e2 := hh.drop.isInt
    exact ⟨i, j, by rw [e1, e2], qI _ rfl⟩
  · obtain ⟨ns, e1, e⟩ := obind e
    split at e
    · cases e
    · rename_i hn
      cases e
      obtain ⟨o, v, rfl, rfl, h⟩ := one _ rfl
      obtain ⟨a, rfl, r⟩ := h.intsL e1
      have nn : ns ≠ [] := fun z => hn (by rw [z]; rfl)
      exact ⟨a, ns, rfl, r, by omega, fun m hm hu => by rw [maxL_ok nn hm hu]; exact qI _ rfl⟩
  · obtain ⟨ns, e1, e⟩ := obind e
    split at e
    · cases e
    · rename_i hn
      cases e
      obtain ⟨o, v, rfl, rfl, h⟩ := one _ rfl
      obtain ⟨a, rfl, r⟩ := h.intsL e1
      have nn : ns ≠ [] := fun z => hn (by rw [z]; rfl)
      exact ⟨a, ns, rfl, r, by omega, fun m hm hu => by rw [minL_ok nn hm hu]; exact qI _ rfl⟩
  · cases e
    obtain ⟨o, v, rfl, rfl, h⟩ := one _ rfl
    obtain ⟨rfl, a⟩ := h.isStr
    exact ⟨_, rfl, rfl, qI _ rfl⟩
  · cases e
theorem blt_share {f : BF} (hf : f = .list ∨ f = .tuple) (h : I K H0 F0 ρ σ (g1 o t va :: τ) H) (he : shareR1 (fun x => bltV f [x]) t o ρ = some r) (la : ∀ i, o = .view i → σ[i]? = some (some va))
    (hq : ∀ v H', I K H0 F0 r.ρ σ (g1 r.o r.t v :: τ) H' → r.o.isView = false → Q v H') : rF K f [va] H Q := by
  rcases share1 h he la with ⟨y, ey, er, hn⟩ | ⟨t', ey, hz, h'⟩
  · subst er
    rcases hf with rfl | rfl
    · cases t with
      | lst xs =>
        cases ey
        obtain ⟨a, ws, rfl, rd, hl, h2, _⟩ := h.kidsL
        rcases hn with hn | ⟨ys, ez, hn⟩
        · simp [T.nl] at hn
        · cases ez
          exact ⟨a, ws, rfl, .inl (.inl rd), fun p hp => hq _ _ ((I.nlG (o' := .full) h2 hn).fin (.inl ⟨rfl, rfl⟩) hp) rfl⟩
      | tup xs =>
        cases ey
        obtain ⟨a, ws, rfl, rd, hl, h2⟩ := h.kidsT
        rcases hn with hn | ⟨ys, ez, hn⟩
        · simp [T.nl] at hn
        · cases ez
          exact ⟨a, ws, rfl, .inr rd, fun p hp => hq _ _ ((I.nlG (o' := .full) h2 hn).fin (.inl ⟨rfl, rfl⟩) hp) rfl⟩
      | _ => cases ey
    · cases t with
      | lst xs =>
        cases ey
        obtain ⟨a, ws, rfl, rd, hl, h2, _⟩ := h.kidsL
        rcases hn with hn | ⟨ys, ez, hn⟩
        · exact ⟨a, ws, rfl, .inl ⟨.inl rd, fun p hp => hq _ _ ((I.nlG (o' := .full) h2 (by simpa [T.nl] using hn)).finT (.inl ⟨rfl, rfl⟩) hp) rfl⟩⟩
        · cases ez
      | _ => cases ey
  · obtain ⟨t0, o0, ρ0⟩ := r
    rcases hf with rfl | rfl
    · cases t' with
      | lst xs =>
        rcases hz with ⟨zs, e1, e2⟩ | ⟨zs, e1, e2⟩ <;> cases e1 <;> cases e2 <;> cases ey
        obtain ⟨a, ws, rfl, rd, hl, h2, _⟩ := h'.kidsL
        exact ⟨a, ws, rfl, .inl (.inl rd), fun p hp => hq _ _ (I.fin h2 (.inr ⟨rfl, rfl⟩) hp) rfl⟩
      | tup xs =>
        rcases hz with ⟨zs, e1, e2⟩ | ⟨zs, e1, e2⟩ <;> cases e1 <;> cases e2 <;> cases ey
        obtain ⟨a, ws, rfl, rd, hl, h2⟩ := h'.kidsT
        exact ⟨a, ws, rfl, .inr rd, fun p hp => hq _ _ (I.fin h2 (.inr ⟨rfl, rfl⟩) hp) rfl⟩
      | _ => cases ey
    · cases t' with
      | lst xs =>
        rcases hz with ⟨zs, e1, e2⟩ | ⟨zs, e1, e2⟩ <;> cases e1 <;> cases e2 <;> cases ey
        obtain ⟨a, ws, rfl, rd, hl, h2, _⟩ := h'.kidsL
        exact ⟨a, ws, rfl, .inl ⟨.inl rd, fun p hp => hq _ _ (I.finT h2 (.inr ⟨rfl, rfl⟩) hp) rfl⟩⟩
      | _ => cases ey
theorem evV_len : ∀ {ds : List Den} {ρ : Env} {x : List T × List Own × Env}, evV ds ρ = some x → x.1.length = x.2.1.length
  | [], _, _, e => by cases e; rfl
  | d :: ds, ρ, x, e => by
    simp only [evV] at e
    obtain ⟨r0, _, e⟩ := obind e
    obtain ⟨r, _, e⟩ := obind e
    obtain ⟨y, e2, rfl⟩ := omap e
    simp [evV_len e2]
theorem bltV_nl {f : BF} {ts : List T} (hf : f ≠ .list ∧ f ≠ .tuple) (e : bltV f ts = some y) : y.nl = true := by
  unfold bltV at e
  split at e <;> first
    | (cases e <;> rfl)
    | (exact absurd rfl hf.1)
    | (exact absurd rfl hf.2)
    | (obtain ⟨_, _, rfl⟩ := omap e; rfl)
    | (obtain ⟨_, _, e⟩ := obind e; split at e <;> cases e; rfl)
theorem shareB_nl {g : List T → Option T} {ts : List T} {os : List Own} (hn : ∀ y, g ts = some y → y.nl = true) (he : shareB g ts os ρ = some r) : ∃ y, g ts = some y ∧ r = ⟨y, .full, ρ⟩ := by
  match ts, os, hn, he with
  | [t], [o], hn, he =>
    simp only [shareB, shareR1] at he
    obtain ⟨y, ey, he⟩ := obind he
    rw [if_pos (hn y ey)] at he
    cases he
    exact ⟨y, ey, rfl⟩
  | [], os, hn, he =>
    simp only [shareB] at he
    obtain ⟨y, ey, he⟩ := obind he
    rw [if_pos (hn y ey)] at he
    cases he
    exact ⟨y, ey, rfl⟩
  | [t], [], hn, he =>
    simp only [shareB] at he
    obtain ⟨y, ey, he⟩ := obind he
    rw [if_pos (hn y ey)] at he
    cases he
    exact ⟨y, ey, rfl⟩
  | [t], _ :: _ :: _, hn, he =>
    simp only [shareB] at he
    obtain ⟨y, ey, he⟩ := obind he
    rw [if_pos (hn y ey)] at he
    cases he
    exact ⟨y, ey, rfl⟩
  | _ :: _ :: _, os, hn, he =>
    simp only [shareB] at he
    obtain ⟨y, ey, he⟩ := obind he
    rw [if_pos (hn y ey)] at he
    cases he
    exact ⟨y, ey, rfl⟩
theorem sv_blt {f : BF} {es : List E} {p0 : Pos} {p : Expr} {ps : List Expr} {x : Str} {pos : Pos} (M : MOk K mg U G) (hu : U f = true) (hg : gnB sc f.nm x = true) (h : SVs P w K mg base k N sc (denL G C es) (p :: ps)) :
    SV P w K mg base k N sc (den G C (.blt f es)) (.Call (.Name x p0) (p :: ps) [] pos) := fun X ok => by
  obtain ⟨rfl, g1', g2, g3⟩ := gnOf hg
  obtain ⟨t, pa, q⟩ := pa_V h X ok
  have hs : starEach (p :: ps) X.env = (false, eval p X.env) :: starEach ps X.env ∧ (backTo pos (starEach ps X.env)).any (·.1) = false := by
    obtain ⟨pl, ds', t⟩ := h.head
    exact ⟨pl.star _ _, starNo t _ _⟩
  refine ⟨_, pe_blt M ok hu g1' g2 g3 pa hs.1 hs.2, fun H0 F0 ρ σ τ H r Q hI hv he qq => ?_⟩
  simp only [den, valD] at he
  obtain ⟨x, e1, he⟩ := obind he
  have hl := evV_len e1
  refine q _ _ _ _ _ _ x _ hI hv e1 fun vs H1 hI1 lk => ?_
  obtain ⟨ts, os, ρ1⟩ := x
  -- one's answer is a number
  have atom : ∀ y, bltV f ts = some y → (f ≠ .list ∧ f ≠ .tuple) → r = ⟨y, .full, ρ1⟩ → rF K f vs H1 Q := fun y ey hf er => by
    subst er
    exact blt_atom hI1 lk hl hf ey fun v h => qq v _ h (nolink rfl)
  by_cases hf : f = .list ∨ f = .tuple
  · match ts, os, vs, hl, lk, hI1, he with
    | [t], [o], [v], _, lk, hI1, he => exact blt_share hf hI1 he lk.1 fun v H' h nv => qq v H' h (nolink nv)
    | [t], [o], [], _, lk, _, _ => exact lk.elim
    | [t], [o], _ :: _ :: _, _, lk, _, _ => exact lk.2.elim
    | [], [], _, _, _, _, he =>
      simp only [shareB] at he
      obtain ⟨y, ey, _⟩ := obind he
      rcases hf with rfl | rfl <;> simp [bltV] at ey
    | _ :: _ :: _, os, _, hl, _, _, he =>
      match os, he with
      | [_], _ => simp at hl
      | [], _ => simp at hl
      | _ :: _ :: _, he =>
        simp only [shareB] at he
        obtain ⟨y, ey, _⟩ := obind he
        rcases hf with rfl | rfl <;> simp [bltV] at ey
  · have hf' : f ≠ .list ∧ f ≠ .tuple := ⟨fun e => hf (.inl e), fun e => hf (.inr e)⟩
    obtain ⟨y, ey, er⟩ := shareB_nl (fun y ey => bltV_nl hf' ey) he
    exact atom y ey hf' er
end
end Ev
namespace Ev
open PySem PySem.Spec PyProof.Rows L2
def T.ty : T → String
  | .non => "NoneType" | .bl _ => "bool" | .int _ => "int" | .str _ => "str" | .tup _ => "tuple" | .lst _ => "list" | .dct _ _ => "dict" | .obj _ _ _ => "object"
def CT.s : CT → String
  | .int => "int" | .bool => "bool" | .str => "str" | .list => "list" | .tuple => "tuple"
section
variable {P : Program} {w : World} {K : PySem.W.Frag} {mg : Str → Option Value} {base : Heap} {k : Nat} {N : List Str} {sc : Scope} {U : BF → Bool} {G : List Nat → Option T} {C : List Nat → List T → Option (T × Own)}
variable {X : Cx} {H0 F0 H H' F : Hp} {ρ ρ' : Env} {σ : L2.St} {τ : List Gp} {t u y : T} {o q : Own} {va vb v : V} {r : R} {Q : VK}
theorem kit_non (c : CT) : kitB "NoneType" c.s = some (isiV c .non) := by cases c <;> decide +kernel
theorem kit_bl (c : CT) : kitB "bool" c.s = some (isiV c (.bl true)) := by cases c <;> decide +kernel
theorem kit_int (c : CT) : kitB "int" c.s = some (isiV c (.int 0)) := by cases c <;> decide +kernel
theorem kit_str (c : CT) : kitB "str" c.s = some (isiV c (.str [])) := by cases c <;> decide +kernel
theorem kit_tup (c : CT) : kitB "tuple" c.s = some (isiV c (.tup [])) := by cases c <;> decide +kernel
theorem kit_lst (c : CT) : kitB "list" c.s = some (isiV c (.lst [])) := by cases c <;> decide +kernel
theorem tyx_of (h : I K H0 F0 ρ σ (g1 o t v :: τ) H) : TyX K H v (.type t.ty) ∧ (∀ c, kitB t.ty (CT.s c) = some (isiV c t)) := by
  cases t with
  | non => rw [h.isNon]; exact ⟨.base .non, kit_non⟩
  | bl b => rw [h.isBl]; exact ⟨.base (.bl _), fun c => by cases c <;> exact kit_bl _⟩
  | int b => rw [h.isInt]; exact ⟨.base (.int _), fun c => by cases c <;> exact kit_int _⟩
  | str b => rw [h.isStr.1]; exact ⟨.base (.str _), fun c => by cases c <;> exact kit_str _⟩
  | tup xs =>
    obtain ⟨a, ws, rfl, rd, hl, h2⟩ := h.kidsT
    refine ⟨?_, fun c => by cases c <;> exact kit_tup _⟩
    rcases rd with (rd | ⟨ob, rd⟩) | ⟨ob, its, n, rd, hc, _⟩
    · exact .base (.tup rd)
    · exact .fTuple rd
    · exact .kTuple rd hc
  | lst xs =>
    obtain ⟨a, ws, rfl, rd, hl, h2, _⟩ := h.kidsL
    refine ⟨?_, fun c => by cases c <;> exact kit_lst _⟩
    rcases rd with rd | ⟨ob, rd⟩
    · exact .base (.lst rd)
    · exact .base (.frz rd)
  | dct _ _ =>
    obtain ⟨F, fp, s, r, _⟩ := h.top
    have r := RpL.one.mp r
    simp only [Rp] at r
  | obj _ _ _ =>
    obtain ⟨F, fp, s, r, _⟩ := h.top
    have r := RpL.one.mp r
    simp only [Rp] at r
theorem pe_cls {c : CT} {p0 : Pos} (M : MOk K mg U G) (ok : XOk P w K mg base k N sc X) (hg : sc.names.lookup c.nm = some .globalImplicit) (hd : (c.nm == ("__debug__" : Str)) = false) (hn : c.nm ≠ "__name__") : PE X (.Name c.nm p0) (tC (.ty c.s)) := by
  have hm : X.mg c.nm = none := by rw [ok.mg_]; exact M.cls c
  have hg' : Gl X c.nm := ok.gl hg
  cases c with
  | int => exact pe_bltn hg' hm (u := .type "int") (by decide +kernel) rfl hn hd
  | bool => exact pe_bltn hg' hm (u := .type "bool") (by decide +kernel) rfl hn hd
  | str => exact pe_bltn hg' hm (u := .type "str") (by decide +kernel) rfl hn hd
  | list => exact pe_bltn hg' hm (u := .type "list") (by decide +kernel) rfl hn hd
  | tuple => exact pe_bltn hg' hm (u := .type "tuple") (by decide +kernel) rfl hn hd
theorem sv_isi {a : E} {c : CT} {pa : Expr} {x yy : Str} {p0 p1 pos : Pos} (M : MOk K mg U G) (hx : gnB sc "isinstance" x = true) (hy : gnB sc c.nm yy = true) (ha : SV P w K mg base k N sc (den G C a) pa) (pl : Plain pa) :
    SV P w K mg base k N sc (den G C (.isi a c)) (.Call (.Name x p0) [pa, .Name yy p1] [] pos) := fun X ok => by
  obtain ⟨rfl, a1, a2, a3⟩ := gnOf hx
  obtain ⟨rfl, b1, b2, b3⟩ := gnOf hy
  obtain ⟨ta, pp, q1⟩ := ha X ok
  have pc := pe_cls (p0 := p1) M ok b1 b2 b3
  have hs : starEach [pa, .Name c.nm p1] X.env = (false, eval pa X.env) :: starEach [.Name c.nm p1] X.env := pl.star _ _
  refine ⟨_, pe_callB (r := rIsi X.K) call_isi (ok.gl a1) (by rw [ok.mg_]; exact M.isi) (by decide +kernel) (pa_cons pp (pa_cons pc pa_nil) hs) a3 a2 hs rfl, fun H0 F0 ρ σ τ H r Q hI hv he q => ?_⟩
  simp only [den, valD] at he
  obtain ⟨ra, e1, rfl⟩ := omap he
  refine q1 _ _ _ _ _ _ ra _ hI hv e1 fun v H1 hI1 l1 => ?_
  obtain ⟨t1, t2⟩ := tyx_of hI1
  rw [ok.K_]
  exact ⟨v, .ty c.s, _, .type c.s, isiV c ra.t, rfl, .ty _, t1, kit_ty (t2 c), q _ _ (hI1.drop.bl _) (nolink rfl)⟩
theorem occ_ok {s : List Nat} {c j : Nat} (e : s.findIdx? (· == c) = some j) : ∃ rest, Builtin.Str.occurrences ⟨s.toArray⟩ ⟨#[c]⟩ 0 (⟨s.toArray⟩ : Str).length 1 = j :: rest := by
  rw [List.findIdx?_eq_some_iff_getElem] at e
  obtain ⟨hj, e1, e2⟩ := e
  have hc : ∀ i : Nat, StrLaws.At ⟨s.toArray⟩ ⟨#[c]⟩ (⟨s.toArray⟩ : Str).length i ↔ s[i]? = some c := fun i => by
    have := StrLaws.subAt_one ⟨s.toArray⟩ c i
    exact this
  have hat : s[j]? = some c := by
    rw [List.getElem?_eq_getElem hj]
    exact congrArg some (by simpa using e1)
  rcases StrLaws.occ_head ⟨s.toArray⟩ ⟨#[c]⟩ 1 (Nat.le_refl _) with ⟨_, h⟩ | ⟨i, rest, h1, h2, h3⟩
  · exact absurd ((hc j).mpr hat) (h j)
  · have hi := (hc i).mp h2
    have ej : i = j := by
      rcases Nat.lt_trichotomy i j with h | h | h
      · have := e2 i h
        have hi' : s[i]? = some s[i] := List.getElem?_eq_getElem (by omega)
        rw [hi'] at hi
        cases hi
        simp at this
      · exact h
      · exact absurd ((hc j).mpr hat) (h3 j h)
    subst ej
    exact ⟨rest, h1⟩
theorem few_ok {p : Expr} {cpos : Pos} {env : PySem.Env} (pl : Plain p) : ((backTo cpos (starEach [p] env)).all (fun x => !x.1) && (backToKw cpos (keywordEach [] env)).all (fun x => x.1.isSome)
      && decide ([p].length + ([] : List Keyword).length + (if ([] : List Keyword).isEmpty then 0 else 1) < 30)) = true := by
  rw [pl.star]; rfl
/-- the first place of an item -/
theorem idx_of {t : T} {v : V} {F' : Hp} {o' : Own} {fq : List Addr} (ft : flatT t = true) (ht : Rp K F' H o' t v fq) : ∀ {xs : List T} {ws : List V} {o : Own} {fp : List Addr} {j : Nat}, RpL K F H o xs ws fp → xs.all flatT = true → xs.findIdx? (fun z => eqT z t) = some j →
    ∃ z, ws[j]? = some z ∧ eqV z v = true ∧ ∀ (m : Nat) (z' : V), m < j → ws[m]? = some z' → eqV z' v = false
  | [], [], _, _, _, _, _, e => by simp at e
  | x :: xs, w :: ws, o, fp, j, h, f, e => by
    simp only [RpL] at h
    obtain ⟨f1, f2, h1, h2, _⟩ := h
    simp only [List.all_cons, Bool.and_eq_true] at f
    have ew := eqV_of f.1 ft h1 ht
    rw [List.findIdx?_cons] at e
    split at e
    · rename_i hx
      cases e
      exact ⟨w, rfl, by rw [ew]; exact hx, fun m z' hm => absurd hm (Nat.not_lt_zero _)⟩
    · rename_i hx
      obtain ⟨j', e', rfl⟩ := omap e
      obtain ⟨z, e1, e2, e3⟩ := idx_of ft ht h2 f.2 e'
      refine ⟨z, by simpa using e1, e2, fun m z' hm ez => ?_⟩
      cases m with
      | zero =>
        have : w = z' := by simpa using ez
        subst this
        rw [ew]
        simpa using hx
      | succ m => exact e3 m z' (by omega) (by simpa using ez)
  | [], _ :: _, _, _, _, h, _, _ => by simp [RpL] at h
  | _ :: _, [], _, _, _, h, _, _ => by simp [RpL] at h
theorem methV_s {ts : List T} (h : methV .sindex t ts = some y) : ∃ s c j, t = .str s ∧ ts = [.str [c]] ∧ s.findIdx? (· == c) = some j ∧ y = .int (j : Nat) := by
  unfold methV at h
  split at h
  · rename_i e; cases e
  · obtain ⟨j, e, rfl⟩ := omap h
    exact ⟨_, _, j, rfl, rfl, e, rfl⟩
  · cases h
theorem methV_l {ts : List T} (h : methV .lindex t ts = some y) : ∃ xs z j, t = .lst xs ∧ ts = [z] ∧ flatT z = true ∧ xs.all flatT = true ∧ xs.findIdx? (fun u => eqT u z) = some j ∧ y = .int (j : Nat) := by
  unfold methV at h
  split at h
  · split at h
    · rename_i hf
      simp only [Bool.and_eq_true] at hf
      obtain ⟨j, e, rfl⟩ := omap h
      exact ⟨_, _, j, rfl, rfl, hf.1, hf.2, e, rfl⟩
    · cases h
  · rename_i e; cases e
  · cases h
theorem sv_meth {f : MF} {a e : E} {po p : Expr} {m : Str} {apos cpos : Pos} (hm : m = f.nm) (hl : (apos.endLine == cpos.line) = true) (ha : SV P w K mg base k N sc (den G C a) po) (pla : Plain po) (he : SV P w K mg base k N sc (den G C e) p) (pl : Plain p) :
    SV P w K mg base k N sc (den G C (.meth f a [e])) (.Call (.Attribute po m apos) [p] [] cpos) := fun X ok => by
  subst hm
  obtain ⟨ta, p1, q1⟩ := ha X ok
  obtain ⟨tb, p2, q2⟩ := pa_V (SVs.cons he pl .nil) X ok
  have hb : attributeBase po f.nm X.env (eval po X.env) = eval po X.env := pla.att _ _ _
  have hs : starEach [p] X.env = (false, eval p X.env) :: starEach [] X.env := pl.star _ _
  have none : (∀ ts t, methV f t ts = none) → ∃ t, PE X (.Call (.Attribute po f.nm apos) [p] [] cpos) t ∧ ∀ H0 F0 ρ σ τ H r Q, I K H0 F0 ρ σ τ H → ((den G C (.meth f a [e])).c = true → NoV τ) → (den G C (.meth f a [e])).v ρ = some r →
      (∀ v H', I K H0 F0 r.ρ σ (g1 r.o r.t v :: τ) H' → (∀ i, r.o = .view i → σ[i]? = some (some v)) → Q v H') → t σ H Q := fun no =>
    ⟨fun _ _ _ => False, ⟨fun _ _ _ _ _ _ z => z.elim⟩, fun H0 F0 ρ σ τ H r Q hI hv he q => by
      simp only [den, valD] at he
      obtain ⟨r0, e1, he⟩ := obind he
      obtain ⟨ra, e0, he⟩ := obind he
      obtain ⟨x, e2, he⟩ := obind he
      obtain ⟨y, e3, he⟩ := obind he
      rw [no] at e3; cases e3⟩
  -- what comes of the two parts
  have parts : ∀ {ρ : Env} {r : R}, (den G C (.meth f a [e])).v ρ = some r → ∃ r0 ra x y, (den G C a).v ρ = some r0 ∧ vo (anyC (denL G C [e])) r0 = some ra ∧ evV (denL G C [e]) ra.ρ = some x ∧ methV f ra.t x.1 = some y ∧ y.nl = true ∧ r = ⟨y, .full, x.2.2⟩ := fun {ρ r} he => by
    simp only [den, valD] at he
    obtain ⟨r0, e1, he⟩ := obind he
    obtain ⟨ra, e0, he⟩ := obind he
    obtain ⟨x, e2, he⟩ := obind he
    obtain ⟨y, e3, he⟩ := obind he
    split at he
    · rename_i n
      cases he
      exact ⟨r0, ra, x, y, e1, e0, e2, e3, n, rfl⟩
    · cases he
  cases f with
  | sindex =>
    refine ⟨_, pe_bm PySem.F.plainAttrs_str PySem.F.slot_str_index PySem.F.type_str_index mt_sindex p1 p2 hb (few_ok pl) hl hs rfl, fun H0 F0 ρ σ τ H r Q hI hv he q => ?_⟩
    obtain ⟨r0, ra, x, y, e1, e0, e2, e3, n, rfl⟩ := parts he
    refine q1 _ _ _ _ _ _ r0 _ hI (fun c => hv (by simp [den, valD, c])) e1 fun v H1 hI0 l0 => ?_
    obtain ⟨hI1, l1, n1⟩ := hI0.vo e0 l0
    obtain ⟨t0, o0, ρ0⟩ := ra
    obtain ⟨ts, os, ρ1⟩ := x
    obtain ⟨s, c, j, rfl, rfl, ej, rfl⟩ := methV_s e3
    · obtain ⟨rfl, as⟩ := hI1.isStr
      refine ⟨rfl, q2 _ _ _ _ _ _ _ _ hI1 (fun c => (hv (by simp only [den, valD, Bool.or_eq_true]; exact .inr c)).cons (n1 c)) e2 fun vs H2 hI2 l2 => ?_⟩
      match os, vs, l2, hI2, evV_len e2 with
      | [o], [v], _, hI2, _ =>
        obtain ⟨rfl, ac⟩ := I.isStr (K := K) hI2
        obtain ⟨rest, er⟩ := occ_ok ej
        exact ⟨_, _, j, rest, rfl, rfl, er, q _ _ ((I.drop (I.drop hI2)).int _) (nolink rfl)⟩
      | [_], [], l2, _, _ => exact l2.elim
      | [_], _ :: _ :: _, l2, _, _ => exact l2.2.elim
      | [], _, _, _, hl => simp at hl
      | _ :: _ :: _, _, _, _, hl => simp at hl
  | lindex =>
    refine ⟨_, pe_bm PySem.F.plainAttrs_list PySem.F.slot_list_index PySem.F.type_list_index mt_index p1 p2 hb (few_ok pl) hl hs rfl, fun H0 F0 ρ σ τ H r Q hI hv he q => ?_⟩
    obtain ⟨r0, ra, x, y, e1, e0, e2, e3, n, rfl⟩ := parts he
    refine q1 _ _ _ _ _ _ r0 _ hI (fun c => hv (by simp [den, valD, c])) e1 fun v H1 hI0 l0 => ?_
    obtain ⟨hI1, l1, n1⟩ := hI0.vo e0 l0
    obtain ⟨t0, o0, ρ0⟩ := ra
    obtain ⟨ts, os, ρ1⟩ := x
    obtain ⟨xs, z, j, rfl, rfl, hf1, hf2, ej, rfl⟩ := methV_l e3
    · · skip
        obtain ⟨aa, ws, rfl, rd, hlen, h2, _⟩ := hI1.kidsL
        refine ⟨.inl ⟨rfl, _, .inl rd⟩, q2 _ _ _ _ _ _ _ _ hI1 (fun c => (hv (by simp only [den, valD, Bool.or_eq_true]; exact .inr c)).cons (n1 c)) e2 fun vs H2 hI2 l2 => ?_⟩
        match os, vs, l2, hI2, evV_len e2 with
        | [o], [v], _, hI2, _ =>
          have hI2 : I K H0 F0 ρ1 σ (g1 o z v :: g1 o0 (.lst xs) (.ref aa) :: τ) H2 := hI2
          obtain ⟨F, fp, s, rr, _⟩ := hI2.top
          have rr := RpL.one.mp rr
          obtain ⟨aa', ws', e5, rd', hlen', h3, _⟩ := hI2.drop.kidsL
          cases e5
          obtain ⟨F', fp', s', rr'⟩ := h3.see
          obtain ⟨zz, z1, z2, z3⟩ := idx_of hf1 rr rr' hf2 ej
          rw [ok.K_]
          exact ⟨aa, ws', v, j, zz, rfl, rfl, .inl rd', flat_of hf1 rr, flats_of hf2 rr', z1, z2, z3, q _ _ (hI2.drop.drop.int _) (nolink rfl)⟩
        | [_], [], l2, _, _ => exact l2.elim
        | [_], _ :: _ :: _, l2, _, _ => exact l2.2.elim
        | [], _, _, _, hl => simp at hl
        | _ :: _ :: _, _, _, _, hl => simp at hl
  | _ => exact none fun ts t => rfl
end
end Ev
namespace Ev
open PySem PySem.Spec PyProof.Rows L2
section
variable {P : Program} {w : World} {K : PySem.W.Frag} {mg : Str → Option Value} {base : Heap} {k : Nat} {N : List Str} {sc : Scope} {U : BF → Bool} {G : List Nat → Option T} {C : List Nat → List T → Option (T × Own)}
variable {X : Cx} {H0 F0 H H' F : Hp} {ρ ρ' : Env} {σ : L2.St} {τ : List Gp} {t u y : T} {o q : Own} {va vb v : V} {r : R} {Q : VK}
mutual
/-- what is all one's own hangs on no shared part -/
theorem Rp.fullAny {F F' : Hp} : ∀ {t : T} {v : V} {fp : List Addr}, (∀ a ∈ fp, F' a = none) → Rp K F H .full t v fp → Rp K F' H .full t v fp
  | .non, _, _, _, h => by simpa only [Rp] using h
  | .bl _, _, _, _, h => by simpa only [Rp] using h
  | .int _, _, _, _, h => by simpa only [Rp] using h
  | .str _, _, _, _, h => by simpa only [Rp] using h
  | .tup xs, v, fp, n, h => by
    simp only [Rp] at h ⊢
    obtain ⟨a, vs, e, s, r⟩ := h
    exact ⟨a, vs, e, s, RpL.fullAny n r⟩
  | .lst xs, v, fp, n, h => by
    simp only [Rp] at h ⊢
    obtain ⟨a, vs, hd, fp', e, ⟨s1, s2, s3⟩, r, ef⟩ := h
    subst ef s3
    exact ⟨a, vs, [a], fp', e, ⟨s1, n a (by simp), rfl⟩, RpL.fullAny (fun b m => n b (by simp [m])) r, rfl⟩
  | .dct _ _, _, _, _, h => by simp only [Rp] at h
  | .obj _ _ _, _, _, _, h => by simp only [Rp] at h
theorem RpL.fullAny {F F' : Hp} : ∀ {ts : List T} {vs : List V} {fp : List Addr}, (∀ a ∈ fp, F' a = none) → RpL K F H .full ts vs fp → RpL K F' H .full ts vs fp
  | [], [], _, _, h => by simpa only [RpL] using h
  | x :: xs, v :: vs, fp, n, h => by
    simp only [RpL] at h ⊢
    obtain ⟨f1, f2, h1, h2, ef⟩ := h
    subst ef
    exact ⟨f1, f2, Rp.fullAny (fun b m => n b (by simp [m])) h1, RpL.fullAny (fun b m => n b (by simp [m])) h2, rfl⟩
  | [], _ :: _, _, _, h => by simp [RpL] at h
  | _ :: _, [], _, _, h => by simp [RpL] at h
end
theorem Same.none {H H' : Hp} (s : Same H H') {a : Addr} (h : H' a = none) : H a = none := s.free h
/-- behind a call whose answer is all new -/
theorem I.callFull {Fc : Hp} (h : I K H0 F0 ρ σ τ H) (c : I K H Fc [] [] [g1 .full t v] H') : I K H0 F0 ρ σ (g1 .full t v :: τ) H' := by
  obtain ⟨F, fρ, fτ, c1⟩ := h
  obtain ⟨F', fρ', fτ', c2⟩ := c
  obtain ⟨f1, f2, r1, r2, e⟩ := c2.tmp
  have r2 : f2 = [] := r2
  subst r2
  rw [List.append_nil] at e
  subst e
  have hn : ∀ a ∈ fτ', H a = none := fun a m => (c2.ow a (by simp [m])).1
  have hs : ∀ a ∈ fρ ++ fτ, H a ≠ none := fun a m => by
    rcases List.mem_append.mp m with m | m
    · obtain ⟨xs, e⟩ := c1.env.fp_own a m; rw [e]; simp
    · obtain ⟨xs, e⟩ := c1.tmp.fp_own a m; rw [e]; simp
  have F2in : ∀ a, H a ≠ none → (fun a => if H a ≠ none then F a else F' a) a = F a := fun a n => if_pos n
  have F2out : ∀ a, H a = none → (fun a => if H a ≠ none then F a else F' a) a = F' a := fun a n => if_neg (by simp [n])
  have sF : Same F (fun a => if H a ≠ none then F a else F' a) := fun a x e => by
    have : H a ≠ none := by rw [c1.fh a x e]; simp
    rw [F2in a this]; exact e
  have ow1 : ∀ a ∈ fρ ++ fτ, (fun a => if H a ≠ none then F a else F' a) a = none := fun a m => by
    rw [F2in a (hs a m)]; exact (c1.ow a m).2
  have ow2 : ∀ a ∈ fτ', (fun a => if H a ≠ none then F a else F' a) a = none := fun a m => by
    rw [F2out a (hn a m)]; exact (c2.ow a (by simp [m])).2
  refine ⟨fun a => if H a ≠ none then F a else F' a, fρ, fτ' ++ fτ, fun a x e => ?_, c1.h0.trans c2.h0, fun a n => ?_, fun a m => ?_, ?_, c1.env.keep ⟨sF, fun _ _ e => SqT.mono (fun _ => Same.rd c2.h0) e, fun a m => ⟨c2.h0 a, ow1 a (by simp [m])⟩, fun e => by cases e⟩,
    fτ', fτ, RpL.one.mpr (Rp.fullAny ow2 (RpL.one.mp r1)), c1.tmp.keep (b := true) ⟨sF, fun _ _ e => SqT.mono (fun _ => Same.rd c2.h0) e, fun a m => ⟨c2.h0 a, ow1 a (by simp [m])⟩, fun _ => c2.h0⟩ (fun e => by cases e), rfl⟩
  · by_cases n : H a = none
    · have e : F' a = some x := by rw [← F2out a n]; exact e
      exact c2.fh a x e
    · have e : F a = some x := by rw [← F2in a n]; exact e
      exact c2.h0 a x (c1.fh a x e)
  · have n' : H a ≠ none := fun z => n (c1.h0.free z)
    exact (F2in a n').trans (c1.f0 a n)
  · rcases List.mem_append.mp m with m | m
    · exact ⟨(c1.ow a (by simp [m])).1, ow1 a (by simp [m])⟩
    · rcases List.mem_append.mp m with m | m
      · exact ⟨c1.h0.free (hn a m), ow2 a m⟩
      · exact ⟨(c1.ow a (by simp [m])).1, ow1 a (by simp [m])⟩
  · have n1 := c1.nd
    have n2 : fτ'.Nodup := by simpa using (List.nodup_append.mp c2.nd).2.1
    have p : (fρ ++ (fτ' ++ fτ)).Perm (fτ' ++ (fρ ++ fτ)) := by
      rw [← List.append_assoc, ← List.append_assoc]
      exact List.perm_append_comm.append_right _
    rw [p.nodup_iff, List.nodup_append]
    exact ⟨n2, n1, fun a m b m' e => hs b m' (by rw [← e]; exact hn a m)⟩
/-- behind a call whose answer may share -/
theorem I.callCold {fρ fτ : List Addr} (c1 : Core K H0 F0 ρ σ τ H F fρ fτ) (c : I K H F [] [] [g1 o t v] H') : I K H0 F0 ρ σ (g1 o t v :: τ) H' := by
  obtain ⟨F', fρ', fτ', c2⟩ := c
  obtain ⟨f1, f2, r1, r2, e⟩ := c2.tmp
  have r2 : f2 = [] := r2
  subst r2
  rw [List.append_nil] at e
  subst e
  have hn : ∀ a ∈ fτ', H a = none := fun a m => (c2.ow a (by simp [m])).1
  have hs : ∀ a ∈ fρ ++ fτ, H a ≠ none := fun a m => by
    rcases List.mem_append.mp m with m | m
    · obtain ⟨xs, e⟩ := c1.env.fp_own a m; rw [e]; simp
    · obtain ⟨xs, e⟩ := c1.tmp.fp_own a m; rw [e]; simp
  have sF : Same F F' := fun a x e => by
    have : H a ≠ none := by rw [c1.fh a x e]; simp
    rw [c2.f0 a this]; exact e
  have ow1 : ∀ a ∈ fρ ++ fτ, F' a = none := fun a m => by
    rw [c2.f0 a (hs a m)]; exact (c1.ow a m).2
  refine ⟨F', fρ, fτ' ++ fτ, c2.fh, c1.h0.trans c2.h0, fun a n => ?_, fun a m => ?_, ?_, c1.env.keep ⟨sF, fun _ _ e => SqT.mono (fun _ => Same.rd c2.h0) e, fun a m => ⟨c2.h0 a, ow1 a (by simp [m])⟩, fun e => by cases e⟩,
    fτ', fτ, r1, c1.tmp.keep (b := true) ⟨sF, fun _ _ e => SqT.mono (fun _ => Same.rd c2.h0) e, fun a m => ⟨c2.h0 a, ow1 a (by simp [m])⟩, fun _ => c2.h0⟩ (fun e => by cases e), rfl⟩
  · have n' : H a ≠ none := fun z => n (c1.h0.free z)
    exact (c2.f0 a n').trans (c1.f0 a n)
  · rcases List.mem_append.mp m with m | m
    · exact ⟨(c1.ow a (by simp [m])).1, ow1 a (by simp [m])⟩
    · rcases List.mem_append.mp m with m | m
      · exact ⟨c1.h0.free (hn a m), (c2.ow a (by simp [m])).2⟩
      · exact ⟨(c1.ow a (by simp [m])).1, ow1 a (by simp [m])⟩
  · have n1 := c1.nd
    have n2 : fτ'.Nodup := by simpa using (List.nodup_append.mp c2.nd).2.1
    have p : (fρ ++ (fτ' ++ fτ)).Perm (fτ' ++ (fρ ++ fτ)) := by
      rw [← List.append_assoc, ← List.append_assoc]
      exact List.perm_append_comm.append_right _
    rw [p.nodup_iff, List.nodup_append]
    exact ⟨n2, n1, fun a m b m' e => hs b m' (by rw [← e]; exact hn a m)⟩
theorem sv_call {f : List Nat} {es : List E} {p0 : Pos} {p : Expr} {ps : List Expr} {x : Str} {pos : Pos} (CO : COk P w K mg base k C) (hg : gnB sc (S8 f) x = true) (h : SVs P w K mg base k N sc (denL G C es) (p :: ps)) :
    SV P w K mg base k N sc (den G C (.call f es)) (.Call (.Name x p0) (p :: ps) [] pos) := fun X ok => by
  obtain ⟨rfl, a1, a2, a3⟩ := gnOf hg
  by_cases hc : ∃ ts r, C f ts = some r
  · obtain ⟨a, fd, qs, e1, e2, e3, e4, e5⟩ := CO.fn f hc
    obtain ⟨t, pa, qa⟩ := pa_V h X ok
    have hs : starEach (p :: ps) X.env = (false, eval p X.env) :: starEach ps X.env ∧ (backTo pos (starEach ps X.env)).any (·.1) = false := by
      obtain ⟨pl, ds', t⟩ := h.head
      exact ⟨pl.star _ _, starNo t _ _⟩
    have i1 := ok.prog; have i2 := ok.w_; have i3 := ok.K_; have i4 := ok.mg_; have i5 := ok.base_
    subst i1 i2 i3 i4 i5
    refine ⟨_, pe_call (E := E0) e4 ok.room (ok.gl a1) e1 e2 e3 .nil pass0 pa a2 hs.1 hs.2, fun H0 F0 ρ σ τ H r Q hI hv he q => ?_⟩
    simp only [den, valD] at he
    obtain ⟨x, h1, he⟩ := obind he
    obtain ⟨z, h2, he⟩ := obind he
    obtain ⟨⟨t0, o0⟩, h3, he⟩ := omap he
    refine qa _ _ _ _ _ _ x _ hI hv h1 fun vs H1 hI1 lk => ?_
    obtain ⟨hI2, hl⟩ := hI1.reL h2 lk
    obtain ⟨F2, fρ, fτ, c⟩ := id hI2
    obtain ⟨f1, f2, r1, r2, ef⟩ := c.tmp
    have ez := RpL.none_of (.inl rfl) r1
    subst ez
    have c' : Core X.K H0 F0 z.2 σ τ H1 F2 fρ f2 := ⟨c.fh, c.h0, c.f0, fun a m => c.ow a (by rw [ef]; simpa using m), by have := c.nd; rw [ef] at this; simpa using this, c.env, r2⟩
    have hnv := CO.nv f z.1 _ h3
    refine ⟨by rw [List.append_nil, ← hl]; exact e5 _ _ h3, F2, z.1, t0, o0, c.fh, by rw [List.append_nil]; exact r1, h3, fun v H' hr => ?_⟩
    cases hf : o0.isFull with
    | true =>
      rw [hf, if_pos rfl] at he
      subst he
      have := full_of hf
      subst this
      exact q v H' (I.callFull hI1.unstk hr) (nolink rfl)
    | false =>
      rw [hf, if_neg Bool.false_ne_true] at he
      subst he
      exact q v H' (I.callCold c' hr) (nolink hnv)
  · refine ⟨fun _ _ _ => False, ⟨fun _ _ _ _ _ _ z => z.elim⟩, fun H0 F0 ρ σ τ H r Q hI hv he q => ?_⟩
    simp only [den, valD] at he
    obtain ⟨x, h1, he⟩ := obind he
    obtain ⟨z, h2, he⟩ := obind he
    obtain ⟨y, h3, he⟩ := omap he
    exact hc ⟨_, _, h3⟩
end
end Ev
namespace Ev
open PySem PySem.Spec PyProof.Rows L2
section
variable {P : Program} {w : World} {K : PySem.W.Frag} {mg : Str → Option Value} {base : Heap} {k : Nat} {N : List Str} {sc : Scope} {U : BF → Bool} {G : List Nat → Option T} {C : List Nat → List T → Option (T × Own)}
variable {X : Cx} {H0 F0 H H' F : Hp} {ρ ρ' : Env} {σ : L2.St} {τ : List Gp} {t u y : T} {o q : Own} {va vb v : V} {r : R} {Q : VK}
theorem PI.or {tg e : Expr} {w1 w2 : TI} (h1 : PI X tg e w1) (h2 : PI X tg e w2) : PI X tg e (fun σ H R => w1 σ H R ∨ w2 σ H R) :=
  ⟨fun pins s σ H R I h => h.elim (fun h => h1.run pins s σ H R I h) fun h => h2.run pins s σ H R I h⟩
/-- an item of a shared list that stays on top -/
theorem I.itemL {xs : List T} {x : T} {i : Nat} (h : I K H0 F0 ρ σ (g1 .cold (.lst xs) v :: τ) H) (e : xs[i]? = some x) : ∃ a ws w, v = .ref a ∧ SqL K H a ws ∧ ws[i]? = some w ∧ I K H0 F0 ρ σ (g1 .cold x w :: g1 .cold (.lst xs) v :: τ) H := by
  obtain ⟨a, ws, rfl, rd, hl, h2, _⟩ := (cold_dup h).kidsL
  obtain ⟨w, ew, h3⟩ := h2.pick e
  exact ⟨a, ws, w, rfl, .inl rd, ew, h3⟩
theorem I.itemT {xs : List T} {x : T} {i : Nat} (h : I K H0 F0 ρ σ (g1 .cold (.tup xs) v :: τ) H) (e : xs[i]? = some x) : ∃ a ws w, v = .ref a ∧ SqT K H a ws ∧ ws[i]? = some w ∧ I K H0 F0 ρ σ (g1 .cold x w :: g1 .cold (.tup xs) v :: τ) H := by
  obtain ⟨a, ws, rfl, rd, hl, h2⟩ := (cold_dup h).kidsT
  obtain ⟨w, ew, h3⟩ := h2.pick e
  exact ⟨a, ws, w, rfl, rd, ew, h3⟩
theorem wk_list {xs : List T} {a : Addr} : Wk K xs (Itl K a) (g1 .cold (.lst xs) (.ref a)) where
  cold := rfl
  go := fun i H0 F0 ρ σ τ H h hi => by
    obtain ⟨a', ws, w, e, rd, ew, _⟩ := h.itemL (List.getElem?_eq_getElem hi)
    cases e
    exact ⟨ws, w, rd, ew⟩
  yld := fun i x H0 F0 ρ σ τ H v H' h e y => by
    obtain ⟨a', ws, w, e1, rd, ew, h2⟩ := h.itemL e
    cases e1
    obtain ⟨rfl, y⟩ := y
    have := y ws rd
    rw [ew] at this; cases this
    exact h2
  stop := fun i H0 F0 ρ σ τ H h hi => by
    obtain ⟨a', ws, e, rd, hl, _⟩ := h.kidsL
    cases e
    exact ⟨ws, .inl rd, by omega⟩
theorem wk_tup {xs : List T} {a : Addr} : Wk K xs (Itt K a) (g1 .cold (.tup xs) (.ref a)) where
  cold := rfl
  go := fun i H0 F0 ρ σ τ H h hi => by
    obtain ⟨a', ws, w, e, rd, ew, _⟩ := h.itemT (List.getElem?_eq_getElem hi)
    cases e
    exact ⟨ws, w, rd, ew⟩
  yld := fun i x H0 F0 ρ σ τ H v H' h e y => by
    obtain ⟨a', ws, w, e1, rd, ew, h2⟩ := h.itemT e
    cases e1
    obtain ⟨rfl, y⟩ := y
    have := y ws rd
    rw [ew] at this; cases this
    exact h2
  stop := fun i H0 F0 ρ σ τ H h hi => by
    obtain ⟨a', ws, e, rd, hl, _⟩ := h.kidsT
    cases e
    exact ⟨ws, rd, by omega⟩
theorem wk_str {s : List Nat} : Wk K (s.map fun c => .str [c]) (Its ⟨s.toArray⟩) (g1 .cold (.str s) (.str ⟨s.toArray⟩)) where
  cold := rfl
  go := fun i H0 F0 ρ σ τ H h hi => by
    have : i < s.length := by simpa using hi
    show i < s.toArray.size
    simpa using this
  yld := fun i x H0 F0 ρ σ τ H v H' h e y => by
    obtain ⟨rfl, c, ec, rfl⟩ := y
    have ec : s[i]? = some c := by simpa using ec
    have ex : x = .str [c] := by
      rw [List.getElem?_map, ec] at e
      cases e; rfl
    subst ex
    have as := h.isStr.2
    have h1 : 1 ≤ sizeLine := by show 1 ≤ 2 ^ 24; decide
    exact (h.str (x := [c]) ⟨h1, fun d m => by
      simp at m; subst m
      exact as.2 _ (List.mem_of_getElem? ec)⟩).nl rfl
  stop := fun i H0 F0 ρ σ τ H h hi => by
    have : s.length ≤ i := by simpa using hi
    show s.toArray.size ≤ i
    simpa using this
theorem wk_rng {lo : Int} {n : Nat} : Wk K ((List.range n).map fun k => .int (lo + (k : Nat))) (Itr lo n) ⟨.cold, [], []⟩ where
  cold := rfl
  go := fun i H0 F0 ρ σ τ H h hi => by
    show i < n
    simpa using hi
  yld := fun i x H0 F0 ρ σ τ H v H' h e y => by
    obtain ⟨rfl, rfl⟩ := y
    rw [List.getElem?_map] at e
    obtain ⟨j, ej, rfl⟩ := omap e
    have : j = i := by
      rw [List.getElem?_range] at ej
      · exact (Option.some.inj ej).symm
      · exact (List.getElem?_eq_some_iff.mp ej).1 |> fun h => by simpa using h
    subst this
    exact (h.int _).nl rfl
  stop := fun i H0 F0 ρ σ τ H h hi => by
    show n ≤ i
    simpa using hi
theorem wk_down {lo : Int} {n : Nat} : Wk K ((List.range n).map fun k => .int (lo - (k : Nat))) (Itc lo (-1) n) ⟨.cold, [], []⟩ where
  cold := rfl
  go := fun i H0 F0 ρ σ τ H h hi => by
    show i < n
    simpa using hi
  yld := fun i x H0 F0 ρ σ τ H v H' h e y => by
    obtain ⟨rfl, rfl⟩ := y
    rw [List.getElem?_map] at e
    obtain ⟨j, ej, rfl⟩ := omap e
    have : j = i := by
      rw [List.getElem?_range] at ej
      · exact (Option.some.inj ej).symm
      · exact (List.getElem?_eq_some_iff.mp ej).1 |> fun h => by simpa using h
    subst this
    have e2 : lo + (j : Int) * (-1) = lo - (j : Int) := by omega
    rw [e2]
    exact (h.int _).nl rfl
  stop := fun i H0 F0 ρ σ τ H h hi => by
    show n ≤ i
    simpa using hi
theorem wk_rev {xs : List T} {a : Addr} : Wk K xs.reverse (Itv K a xs.length) (g1 .cold (.lst xs) (.ref a)) where
  cold := rfl
  go := fun i H0 F0 ρ σ τ H h hi => by
    have hi : i < xs.length := by simpa using hi
    obtain ⟨a', ws, w, e, rd, ew, _⟩ := h.itemL (i := xs.length - 1 - i) (List.getElem?_eq_getElem (by omega))
    cases e
    exact ⟨hi, ws, w, rd, ew⟩
  yld := fun i x H0 F0 ρ σ τ H v H' h e y => by
    have hi : i < xs.length := by simpa using (List.getElem?_eq_some_iff.mp e).1
    rw [List.getElem?_reverse hi] at e
    obtain ⟨a', ws, w, e1, rd, ew, h2⟩ := h.itemL e
    cases e1
    obtain ⟨rfl, y⟩ := y
    have := y ws rd
    rw [ew] at this; cases this
    exact h2
  stop := fun i H0 F0 ρ σ τ H h hi => by
    show xs.length ≤ i
    simpa using hi
/-- a pair just made, and what stands below it -/
theorem I.pair {x y : T} {vx vy : V} {p : Addr} (h : I K H0 F0 ρ σ (g1 .cold x vx :: g1 .cold y vy :: τ) H) (hp : H p = none) : I K H0 F0 ρ σ (g1 .cold (.tup [x, y]) (.ref p) :: τ) (upd H p (.tup [vx, vy])) :=
  h.join.newTup (.inr rfl) hp
theorem wk_enum {xs : List T} {a : Addr} : Wk K (xs.zipIdx.map fun p => .tup [.int (p.2 : Nat), p.1]) (Ite K a) (g1 .cold (.lst xs) (.ref a)) where
  cold := rfl
  go := fun i H0 F0 ρ σ τ H h hi => by
    have hi : i < xs.length := by simpa using hi
    obtain ⟨a', ws, w, e, rd, ew, _⟩ := h.itemL (List.getElem?_eq_getElem hi)
    cases e
    exact ⟨ws, w, rd, ew⟩
  yld := fun i x H0 F0 ρ σ τ H v H' h e y => by
    obtain ⟨p, w, rfl, np, rfl, y⟩ := y
    rw [List.getElem?_map] at e
    obtain ⟨⟨x0, j⟩, ej, rfl⟩ := omap e
    rw [List.getElem?_zipIdx] at ej
    obtain ⟨x1, e1, e2⟩ := omap ej
    have e3 : x1 = x0 := congrArg Prod.fst e2
    have e4 : 0 + i = j := congrArg Prod.snd e2
    have e5 : j = i := by omega
    subst e3 e5
    obtain ⟨a', ws, w', e6, rd, ew, h2⟩ := h.itemL e1
    cases e6
    have := y ws rd
    rw [ew] at this; cases this
    exact ((h2.int _).nl rfl).pair np
  stop := fun i H0 F0 ρ σ τ H h hi => by
    obtain ⟨a', ws, e, rd, hl, _⟩ := h.kidsL
    cases e
    have : xs.length ≤ i := by simpa using hi
    exact ⟨ws, .inl rd, by omega⟩
theorem I.unjoin {t u : T} {v1 v2 : V} (h : I K H0 F0 ρ σ (⟨.cold, [t, u], [v1, v2]⟩ :: τ) H) : I K H0 F0 ρ σ (g1 .cold t v1 :: g1 .cold u v2 :: ⟨.cold, [t, u], [v1, v2]⟩ :: τ) H := by
  have h1 : I K H0 F0 ρ σ (g1 .cold u v2 :: ⟨.cold, [t, u], [v1, v2]⟩ :: τ) H := h.dup fun F fp s q => by
    have z := RpL.none_of (.inl rfl) q
    subst z
    simp only [RpL] at q ⊢
    obtain ⟨f1, f2, a1, ⟨f3, f4, a3, rfl, rfl⟩, e⟩ := q
    have e1 := Rp.none_of (.inl rfl) a1
    have e3 := Rp.none_of (.inl rfl) a3
    subst e1 e3
    exact ⟨[], [], a3, rfl, rfl⟩
  have h2 : I K H0 F0 ρ σ (⟨.cold, [t, u], [v1, v2]⟩ :: g1 .cold u v2 :: τ) H := h1.swap
  have h3 : I K H0 F0 ρ σ (g1 .cold t v1 :: ⟨.cold, [t, u], [v1, v2]⟩ :: g1 .cold u v2 :: τ) H := h2.dup fun F fp s q => by
    have z := RpL.none_of (.inl rfl) q
    subst z
    simp only [RpL] at q ⊢
    obtain ⟨f1, f2, a1, ⟨f3, f4, a3, rfl, rfl⟩, e⟩ := q
    have e1 := Rp.none_of (.inl rfl) a1
    subst e1
    exact ⟨[], [], a1, rfl, rfl⟩
  exact h3.perm ((List.Perm.swap _ _ _).cons _)
theorem wk_zip {xs ys : List T} {a b : Addr} : Wk K ((xs.zip ys).map fun p => .tup [p.1, p.2]) (Itz K a b) ⟨.cold, [.lst xs, .lst ys], [.ref a, .ref b]⟩ where
  cold := rfl
  go := fun i H0 F0 ρ σ τ H h hi => by
    have hi : i < xs.length ∧ i < ys.length := by
      have : i < min xs.length ys.length := by simpa using hi
      omega
    have h1 := h.unjoin
    obtain ⟨a', ws, w, e, rd, ew, _⟩ := h1.itemL (List.getElem?_eq_getElem hi.1)
    obtain ⟨b', zs, z, e', rd', ew', _⟩ := h1.drop.itemL (List.getElem?_eq_getElem hi.2)
    cases e; cases e'
    exact ⟨ws, zs, w, z, rd, rd', ew, ew'⟩
  yld := fun i x H0 F0 ρ σ τ H v H' h e y => by
    obtain ⟨p, w, z, rfl, np, rfl, y1, y2⟩ := y
    rw [List.getElem?_map] at e
    obtain ⟨⟨x0, y0⟩, ej, rfl⟩ := omap e
    rw [List.getElem?_zip_eq_some] at ej
    obtain ⟨e1, e2⟩ := ej
    have h1 := h.unjoin
    obtain ⟨b', zs, z', e', rd', ew', h3⟩ := h1.drop.itemL e2
    cases e'
    have := y2 zs rd'
    rw [ew'] at this; cases this
    have h4 : I K H0 F0 ρ σ (g1 .cold y0 z :: ⟨.cold, [.lst xs, .lst ys], [.ref a, .ref b]⟩ :: τ) H := h3.drop2
    have h5 := (h4.swap).unjoin
    obtain ⟨a', ws, w', e, rd, ew, h6⟩ := h5.itemL e1
    cases e
    have := y1 ws rd
    rw [ew] at this; cases this
    -- x0 on top, then the lists, the group, y0
    have h7 : I K H0 F0 ρ σ (g1 .cold x0 w :: ⟨.cold, [.lst xs, .lst ys], [.ref a, .ref b]⟩ :: g1 .cold y0 z :: τ) H := h6.drop2.drop2
    exact (h7.perm ((List.Perm.swap _ _ _).cons _)).pair np
  stop := fun i H0 F0 ρ σ τ H h hi => by
    have h1 := h.unjoin
    obtain ⟨a', ws, e, rd, hl, _⟩ := h1.kidsL
    obtain ⟨b', zs, e', rd', hl', _⟩ := h1.drop.kidsL
    cases e; cases e'
    have : min xs.length ys.length ≤ i := by simpa using hi
    exact ⟨ws, zs, .inl rd, .inl rd', by omega⟩
end
end Ev
namespace Ev
open PySem PySem.Spec PyProof.Rows L2
section
variable {P : Program} {w : World} {K : PySem.W.Frag} {mg : Str → Option Value} {base : Heap} {k : Nat} {N : List Str} {sc : Scope} {U : BF → Bool} {G : List Nat → Option T} {C : List Nat → List T → Option (T × Own)}
variable {X : Cx} {H0 F0 H H' F : Hp} {ρ ρ' : Env} {σ : L2.St} {τ : List Gp} {t u y : T} {o q : Own} {va vb v : V} {r : R} {Q : VK}
theorem si_of {d : Den} {tg pe : Expr} (h : SV P w K mg base k N sc d pe) (hd : d.i = iOf d.v) : SI P w K mg base k N sc d tg pe := fun X ok => by
  obtain ⟨ta, p1, q1⟩ := h X ok
  refine ⟨_, PI.or (pi_list p1) (PI.or (pi_tup p1) (pi_str p1)), fun H0 F0 ρ σ τ H r R hI hv he q => ?_⟩
  rw [hd] at he
  obtain ⟨ra, e1, he⟩ := obind he
  obtain ⟨x, e2, he⟩ := obind he
  obtain ⟨xs, e3, rfl⟩ := omap he
  rw [ok.K_]
  obtain ⟨t', ρ1⟩ := x
  cases t' with
  | lst ys =>
    cases e3
    refine .inl (q1 _ _ _ _ _ _ ra _ hI hv e1 fun v H1 hI1 l1 => ?_)
    have h2 := hI1.re e2 l1
    obtain ⟨a, ws, e, rd, hl, _⟩ := (cold_dup h2).kidsL
    subst e
    exact ⟨a, rfl, ⟨ws, .inl rd⟩, q _ _ _ wk_list h2⟩
  | tup ys =>
    cases e3
    refine .inr (.inl (q1 _ _ _ _ _ _ ra _ hI hv e1 fun v H1 hI1 l1 => ?_))
    have h2 := hI1.re e2 l1
    obtain ⟨a, ws, e, rd, hl, _⟩ := (cold_dup h2).kidsT
    subst e
    exact ⟨a, rfl, ⟨ws, rd⟩, q _ _ _ wk_tup h2⟩
  | str s =>
    cases e3
    refine .inr (.inr (q1 _ _ _ _ _ _ ra _ hI hv e1 fun v H1 hI1 l1 => ?_))
    have h2 := hI1.re e2 l1
    obtain ⟨rfl, _⟩ := h2.isStr
    exact ⟨_, rfl, q _ _ _ wk_str h2⟩
  | _ => cases e3
theorem one_of {ts : List T} {os : List Own} {vs : List V} (h : I K H0 F0 ρ σ (stk ts os vs τ) H) (lk : LkL σ os vs) (hl : ts.length = os.length) (e : ts = [t]) : ∃ o v, vs = [v] ∧ I K H0 F0 ρ σ (g1 o t v :: τ) H := by
  subst e
  match os, vs, hl, lk, h with
  | [o], [v], _, _, h => exact ⟨o, v, rfl, h⟩
  | [o], [], _, lk, _ => exact lk.elim
  | [o], _ :: _ :: _, _, lk, _ => exact lk.2.elim
  | [], _, hl, _, _ => simp at hl
  | _ :: _ :: _, _, hl, _, _ => simp at hl
theorem ints_stk : ∀ {ns : List Int} {os : List Own} {vs : List V} {τ : List Gp}, I K H0 F0 ρ σ (stk (ns.map T.int) os vs τ) H → LkL σ os vs → ns.length = os.length → vs = ns.map V.int
  | [], [], [], _, _, _, _ => rfl
  | [], [], _ :: _, _, _, lk, _ => lk.elim
  | n :: ns, o :: os, [], _, _, lk, _ => lk.elim
  | n :: ns, o :: os, v :: vs, τ, h, lk, hl => by
    have h1 : I K H0 F0 ρ σ (stk (ns.map T.int) os vs (g1 o (.int n) v :: τ)) H := h
    have h2 := ints_stk h1 lk.2 (by simpa using hl)
    have h3 := (h1.unstk).isInt
    rw [h2, h3]
    rfl
  | [], _ :: _, _, _, _, _, hl => by simp at hl
  | _ :: _, [], _, _, _, _, hl => by simp at hl
theorem rng_ints {ts xs : List T} (e : rngV ts = some xs) :
    (∃ j : Int, ts = [j].map T.int ∧ -(2 ^ 62) ≤ j ∧ j < 2 ^ 62 ∧ xs = (List.range j.toNat).map fun i => .int (0 + (i : Nat))) ∨
    (∃ i j : Int, ts = [i, j].map T.int ∧ (-(2 ^ 62) ≤ i ∧ i < 2 ^ 62 ∧ -(2 ^ 62) ≤ j ∧ j < 2 ^ 62) ∧ xs = (List.range (j - i).toNat).map fun k => .int (i + (k : Nat))) ∨
    (∃ i j : Int, ts = [i, j, -1].map T.int ∧ (-(2 ^ 62) ≤ i ∧ i < 2 ^ 62 ∧ -(2 ^ 62) ≤ j ∧ j < 2 ^ 62) ∧ xs = (List.range (i - j).toNat).map fun k => .int (i - (k : Nat))) := by
  unfold rngV at e
  split at e
  · split at e
    · rename_i h
      cases e
      exact .inl ⟨_, rfl, by omega, by omega, by simp⟩
    · cases e
  · split at e
    · rename_i h
      cases e
      exact .inr (.inl ⟨_, _, rfl, ⟨by omega, by omega, by omega, by omega⟩, rfl⟩)
    · cases e
  · split at e
    · rename_i h
      cases e
      exact .inr (.inr ⟨_, _, rfl, ⟨by omega, by omega, by omega, by omega⟩, rfl⟩)
    · cases e
  · cases e
theorem evV_len' : ∀ {ds : List Den} {ρ : Env} {x : List T × List Own × Env}, evV ds ρ = some x → x.1.length = ds.length
  | [], _, _, e => by cases e; rfl
  | d :: ds, ρ, x, e => by
    simp only [evV] at e
    obtain ⟨r0, _, e⟩ := obind e
    obtain ⟨r, _, e⟩ := obind e
    obtain ⟨y, e2, rfl⟩ := omap e
    simp [evV_len' e2]
theorem SVs.len {ds : List Den} {ps : List Expr} (h : SVs P w K mg base k N sc ds ps) : ds.length = ps.length := by
  induction h with
  | nil => rfl
  | cons _ _ _ ih => simp [ih]
theorem si_rng {es : List E} {p0 : Pos} {p : Expr} {ps : List Expr} {x : Str} {pos : Pos} {tg : Expr} (M : MOk K mg U G) (hg : gnB sc "range" x = true) (h : SVs P w K mg base k N sc (denL G C es) (p :: ps)) :
    SI P w K mg base k N sc (den G C (.rng es)) tg (.Call (.Name x p0) (p :: ps) [] pos) := fun X ok => by
  obtain ⟨rfl, a1, a2, a3⟩ := gnOf hg
  obtain ⟨ta, pa, qa⟩ := pa_V h X ok
  have hm : X.mg "range" = none := by rw [ok.mg_]; exact M.rng
  have gl : Gl X "range" := ok.gl a1
  have no : (∀ ρ r, (den G C (.rng es)).i ρ = some r → False) → ∃ t, PI X tg (.Call (.Name "range" p0) (p :: ps) [] pos) t ∧ ∀ H0 F0 ρ σ τ H r R, I K H0 F0 ρ σ τ H → ((den G C (.rng es)).c = true → NoV τ) → (den G C (.rng es)).i ρ = some r →
      (∀ J g H', Wk K r.1 J g → I K H0 F0 r.2 σ (g :: τ) H' → R J H') → t σ H R := fun no =>
    ⟨fun _ _ _ => False, ⟨fun _ _ _ _ _ _ z => z.elim⟩, fun H0 F0 ρ σ τ H r R hI hv he q => (no _ _ he).elim⟩
  have parts : ∀ (ρ : Env) (r : List T × Env), (den G C (.rng es)).i ρ = some r → ∃ x, evV (denL G C es) ρ = some x ∧ rngV x.1 = some r.1 ∧ r.2 = x.2.2 ∧ x.1.length = (p :: ps).length := fun ρ r he => by
    simp only [den, itD] at he
    obtain ⟨x, e1, he⟩ := obind he
    obtain ⟨xs, e2, rfl⟩ := omap he
    exact ⟨x, e1, e2, rfl, by rw [evV_len' e1, h.len]⟩
  match ps, h, pa, no, parts with
  | [], h, pa, no, parts =>
    have s1 : starEach [p] X.env = [(false, eval p X.env)] := h.head.1.star _ _
    refine ⟨_, pi_range1 gl hm pa s1, fun H0 F0 ρ σ τ H r R hI hv he q => ?_⟩
    obtain ⟨x, e1, e2, e3, e4⟩ := parts _ _ he
    refine qa _ _ _ _ _ _ x _ hI hv e1 fun vs H1 hI1 lk => ?_
    obtain ⟨ts, os, ρ1⟩ := x
    rcases rng_ints e2 with ⟨j, rfl, b1, b2, ex⟩ | ⟨i, j, rfl, _⟩ | ⟨i, j, rfl, _⟩
    · have ev := ints_stk hI1 lk (evV_len e1)
      refine ⟨j, ev, b1, b2, q _ ⟨.cold, [], []⟩ _ ?_ ?_⟩
      · rw [ex]; exact wk_rng
      · rw [e3]; exact I.nil hI1.unstk
    · simp at e4
    · simp at e4
  | [p2], h, pa, no, parts =>
    have s1 : starEach [p, p2] X.env = (false, eval p X.env) :: starEach [p2] X.env := h.head.1.star _ _
    have s2 : starEach [p2] X.env = [(false, eval p2 X.env)] := h.head.2.elim fun _ t => t.head.1.star _ _
    refine ⟨_, pi_range2 gl hm pa (by rw [s1, s2]) s2, fun H0 F0 ρ σ τ H r R hI hv he q => ?_⟩
    obtain ⟨x, e1, e2, e3, e4⟩ := parts _ _ he
    refine qa _ _ _ _ _ _ x _ hI hv e1 fun vs H1 hI1 lk => ?_
    obtain ⟨ts, os, ρ1⟩ := x
    rcases rng_ints e2 with ⟨j, rfl, _⟩ | ⟨i, j, rfl, b, ex⟩ | ⟨i, j, rfl, _⟩
    · simp at e4
    · have ev := ints_stk hI1 lk (evV_len e1)
      refine ⟨i, j, ev, b, q _ ⟨.cold, [], []⟩ _ ?_ ?_⟩
      · rw [ex]; exact wk_rng
      · rw [e3]; exact I.nil hI1.unstk
    · simp at e4
  | [p2, p3], h, pa, no, parts =>
    have s1 : starEach [p, p2, p3] X.env = (false, eval p X.env) :: starEach [p2, p3] X.env := h.head.1.star _ _
    have s2 : (backTo pos (starEach [p2, p3] X.env)).any (·.1) = false := h.head.2.elim fun _ t => starNo t _ _
    refine ⟨_, pi_range3 gl hm pa s1 s2, fun H0 F0 ρ σ τ H r R hI hv he q => ?_⟩
    obtain ⟨x, e1, e2, e3, e4⟩ := parts _ _ he
    refine qa _ _ _ _ _ _ x _ hI hv e1 fun vs H1 hI1 lk => ?_
    obtain ⟨ts, os, ρ1⟩ := x
    rcases rng_ints e2 with ⟨j, rfl, _⟩ | ⟨i, j, rfl, _⟩ | ⟨i, j, rfl, b, ex⟩
    · simp at e4
    · simp at e4
    · have ev := ints_stk hI1 lk (evV_len e1)
      refine ⟨i, j, -1, (i - j).toNat, ev, RgC.neg b.1 b.2.1 b.2.2.1 b.2.2.2, q _ ⟨.cold, [], []⟩ _ ?_ ?_⟩
      · rw [ex]; exact wk_down
      · rw [e3]; exact I.nil hI1.unstk
  | _ :: _ :: _ :: _, h, pa, no, parts =>
    refine no fun ρ r he => ?_
    obtain ⟨x, e1, e2, e3, e4⟩ := parts _ _ he
    rcases rng_ints e2 with ⟨j, e, _⟩ | ⟨i, j, e, _⟩ | ⟨i, j, e, _⟩ <;> (rw [e] at e4; simp at e4)
theorem si_enum {a : E} {p0 pos tpos : Pos} {p : Expr} {x : Str} {elts : List Expr} {kk : Nat} (M : MOk K mg U G) (hg : gnB sc "enumerate" x = true) (h : SV P w K mg base k N sc (den G C a) p) (pl : Plain p) :
    SI P w K mg base k N sc (den G C (.enum a)) (.Tuple elts kk tpos) (.Call (.Name x p0) [p] [] pos) := fun X ok => by
  obtain ⟨rfl, a1, a2, a3⟩ := gnOf hg
  obtain ⟨ta, p1, q1⟩ := h X ok
  have s1 : starEach [p] X.env = [(false, eval p X.env)] := pl.star _ _
  refine ⟨_, pi_enum (ok.gl a1) (by rw [ok.mg_]; exact M.enm) (pa_cons p1 pa_nil s1) s1, fun H0 F0 ρ σ τ H r R hI hv he q => ?_⟩
  simp only [den, itD] at he
  obtain ⟨ra, e1, he⟩ := obind he
  obtain ⟨x, e2, he⟩ := obind he
  refine q1 _ _ _ _ _ _ ra _ hI hv e1 fun v H1 hI1 l1 => ?_
  have h2 := hI1.re e2 l1
  obtain ⟨t', ρ1⟩ := x
  cases t' with
  | lst ys =>
    cases he
    obtain ⟨aa, ws, e, rd, hl, _⟩ := (cold_dup h2).kidsL
    subst e
    rw [ok.K_]
    exact ⟨aa, ws, rfl, .inl rd, q _ _ _ wk_enum h2⟩
  | _ => cases he
theorem si_revd {a : E} {p0 pos : Pos} {p tg : Expr} {x : Str} (M : MOk K mg U G) (hg : gnB sc "reversed" x = true) (h : SV P w K mg base k N sc (den G C a) p) (pl : Plain p) :
    SI P w K mg base k N sc (den G C (.revd a)) tg (.Call (.Name x p0) [p] [] pos) := fun X ok => by
  obtain ⟨rfl, a1, a2, a3⟩ := gnOf hg
  obtain ⟨ta, p1, q1⟩ := h X ok
  have s1 : starEach [p] X.env = [(false, eval p X.env)] := pl.star _ _
  refine ⟨_, pi_reversed (ok.gl a1) (by rw [ok.mg_]; exact M.rvd) (pa_cons p1 pa_nil s1) s1, fun H0 F0 ρ σ τ H r R hI hv he q => ?_⟩
  simp only [den, itD] at he
  obtain ⟨ra, e1, he⟩ := obind he
  obtain ⟨x, e2, he⟩ := obind he
  refine q1 _ _ _ _ _ _ ra _ hI hv e1 fun v H1 hI1 l1 => ?_
  have h2 := hI1.re e2 l1
  obtain ⟨t', ρ1⟩ := x
  cases t' with
  | lst ys =>
    cases he
    obtain ⟨aa, ws, e, rd, hl, _⟩ := (cold_dup h2).kidsL
    subst e
    rw [ok.K_]
    refine ⟨aa, ws, rfl, .inl rd, ?_⟩
    rw [← hl]
    exact q _ _ _ wk_rev h2
  | _ => cases he
theorem si_zip {a b : E} {p0 pos tpos : Pos} {pa pb : Expr} {x : Str} {elts : List Expr} {kk : Nat} (M : MOk K mg U G) (hg : gnB sc "zip" x = true) (ha : SV P w K mg base k N sc (den G C a) pa) (pla : Plain pa) (hb : SV P w K mg base k N sc (den G C b) pb) (plb : Plain pb) :
    SI P w K mg base k N sc (den G C (.zip a b)) (.Tuple elts kk tpos) (.Call (.Name x p0) [pa, pb] [] pos) := fun X ok => by
  obtain ⟨rfl, a1, a2, a3⟩ := gnOf hg
  obtain ⟨ta, p1, q1⟩ := ha X ok
  obtain ⟨tb, p2, q2⟩ := hb X ok
  have s1 : starEach [pa, pb] X.env = (false, eval pa X.env) :: starEach [pb] X.env := pla.star _ _
  have s2 : starEach [pb] X.env = [(false, eval pb X.env)] := plb.star _ _
  refine ⟨_, pi_zip (ok.gl a1) (by rw [ok.mg_]; exact M.zip) (pa_cons p1 (pa_cons p2 pa_nil s2) s1) s1 (by rw [s2]; rfl), fun H0 F0 ρ σ τ H r R hI hv he q => ?_⟩
  simp only [den, itD] at he
  obtain ⟨r0, e1, he⟩ := obind he
  obtain ⟨ra, e0, he⟩ := obind he
  obtain ⟨rb, e2, he⟩ := obind he
  obtain ⟨x, e3, he⟩ := obind he
  obtain ⟨y, e4, he⟩ := obind he
  refine q1 _ _ _ _ _ _ r0 _ hI (fun c => hv (by simp [den, itD, c])) e1 fun v H1 hI0 l0 => ?_
  obtain ⟨hI1, l1, n1⟩ := hI0.vo e0 l0
  refine q2 _ _ _ _ _ _ rb _ hI1 (fun c => (hv (by simp [den, itD, c])).cons (n1 c)) e2 fun v2 H2 hI2 l2 => ?_
  have h3 := hI2.swap.re e3 l1
  have h4 := h3.swap.re e4 l2
  obtain ⟨t1, ρ1⟩ := x
  obtain ⟨t2, ρ2⟩ := y
  cases t1 with
  | lst xs =>
    cases t2 with
    | lst ys =>
      cases he
      obtain ⟨bb, zs, e, rd, hl, _⟩ := (cold_dup h4).kidsL
      obtain ⟨aa, ws, e', rd', hl', _⟩ := (cold_dup h4.swap).kidsL
      subst e e'
      rw [ok.K_]
      exact ⟨aa, bb, ws, zs, rfl, .inl rd', .inl rd, q _ _ _ wk_zip h4.swap.join⟩
    | _ => cases he
  | _ => cases he
mutual
def gT (K : PySem.W.Frag) : Tg → TG
  | .nm i => gName i
  | .tp ts => gTup K ts.length (gTs K ts)
def gTs (K : PySem.W.Frag) : List Tg → TGs
  | [] => gNil
  | t :: ts => gCons (gT K t) (gTs K ts)
end
/-- what a target wants of the surroundings -/
structure TOk (K : PySem.W.Frag) (N : List Str) (scl : Scope) (X : Cx) : Prop where
  K_ : X.K = K
  N_ : X.N = N
  nd : N.Nodup
  calm : X.calm = true
  loc : ∀ x, locB scl x = true → Loc X.env.scope x ∧ (X.fn x = true ∨ X.env.scope.names.lookup x = some .local)
theorem asgEach {N : List Str} {scl : Scope} : ∀ {t : Tg} {p : Expr}, mG N scl t p = true → ∀ (es : List Expr) (env : PySem.Env), assignEach (p :: es) env = (false, assign p env) :: assignEach es env
  | .nm i, p, h, es, env => by
    unfold mG at h
    split at h
    · rfl
    · cases h
  | .tp ts, p, h, es, env => by
    unfold mG at h
    split at h
    · rfl
    · cases h
theorem asgEachs {N : List Str} {scl : Scope} : ∀ {ts : List Tg} {ps : List Expr}, mGs N scl ts ps = true → ∀ (env : PySem.Env), (assignEach ps env).length = ts.length ∧ (assignEach ps env).findIdx? (·.1) = none
  | [], [], _, _ => ⟨rfl, rfl⟩
  | [], _ :: _, h, _ => by simp [mGs] at h
  | _ :: _, [], h, _ => by simp [mGs] at h
  | t :: ts, p :: ps, h, env => by
    simp only [mGs, Bool.and_eq_true] at h
    have z := asgEachs h.2 env
    rw [asgEach h.1]
    exact ⟨by simp [z.1], by simp [List.findIdx?_cons, z.2]⟩
mutual
theorem pg_ok {N : List Str} {scl : Scope} (ok : TOk K N scl X) : ∀ {t : Tg} {p : Expr}, mG N scl t p = true → PG X p (gT K t)
  | .nm i, p, h => by
    unfold mG at h
    split at h
    · simp only [Bool.and_eq_true, decide_eq_true_eq] at h
      obtain ⟨l1, l2⟩ := ok.loc _ h.2
      simp only [gT]
      exact pg_name (by rw [ok.N_]; exact ok.nd) (by rw [ok.N_]; exact h.1) l1 l2
    · cases h
  | .tp ts, p, h => by
    unfold mG at h
    split at h
    · have z := asgEachs h X.env
      have z2 := pg_tup (X := X) (k := by assumption) (pos := by assumption) ok.calm (pgs_ok ok h) z.1 z.2
      rw [ok.K_] at z2
      simp only [gT]
      exact z2
    · cases h
theorem pgs_ok {N : List Str} {scl : Scope} (ok : TOk K N scl X) : ∀ {ts : List Tg} {ps : List Expr}, mGs N scl ts ps = true → PGs X ps (gTs K ts)
  | [], [], _ => by simp only [gTs]; exact pgs_nil
  | [], _ :: _, h => by simp [mGs] at h
  | _ :: _, [], h => by simp [mGs] at h
  | t :: ts, p :: ps, h => by
    simp only [mGs, Bool.and_eq_true] at h
    simp only [gTs]
    exact pgs_cons (pg_ok ok h.1) (pgs_ok ok h.2) (by rw [asgEach h.1]; rfl)
end
theorem I.uncons {x : T} {xs : List T} {vs : List V} {c : Own} (h : I K H0 F0 ρ σ (⟨c, x :: xs, vs⟩ :: τ) H) : ∃ v ws, vs = v :: ws ∧ I K H0 F0 ρ σ (g1 c x v :: ⟨c, xs, ws⟩ :: τ) H := by
  obtain ⟨F, fρ, fτ, cc⟩ := h
  obtain ⟨f1, f2, h1, h2, ef⟩ := cc.tmp
  cases vs with
  | nil => simp [RpL] at h1
  | cons v ws =>
    simp only [RpL] at h1
    obtain ⟨f3, f4, h3, h4, e⟩ := h1
    subst e
    refine ⟨v, ws, rfl, F, fρ, fτ, cc.fh, cc.h0, cc.f0, cc.ow, cc.nd, cc.env, f3, f4 ++ f2, RpL.one.mpr h3, ⟨f4, f2, h4, h2, rfl⟩, ?_⟩
    rw [ef, List.append_assoc]
theorem kidO_eq {o : Own} (h : o.isView = false) : kidR o = kidO o ∧ (kidO o).isView = false := by
  cases o <;> first | exact ⟨rfl, rfl⟩ | cases h
/-- slots outside of own are kept -/
def Off (own : List Nat) (σ σ' : L2.St) : Prop := wipe σ' own = wipe σ own
theorem wipe_com {i : Nat} {x : Option V} : ∀ {js : List Nat} {σ : L2.St}, i ∉ js → wipe (σ.set i x) js = (wipe σ js).set i x
  | [], _, _ => rfl
  | j :: js, σ, h => by
    simp only [wipe]
    rw [wipe_com fun z => h (List.mem_cons_of_mem _ z)]
    exact List.set_comm _ _ (fun z => h (by rw [z]; exact List.mem_cons_self))
theorem wipe_set {i : Nat} {x : Option V} : ∀ {own : List Nat} {σ : L2.St}, i ∈ own → wipe (σ.set i x) own = wipe σ own
  | [], _, h => by cases h
  | j :: js, σ, h => by
    simp only [wipe]
    by_cases e : i ∈ js
    · rw [wipe_set e]
    · have e' : i = j := by
        rcases List.mem_cons.mp h with h | h
        · exact h
        · exact absurd h e
      subst e'
      rw [wipe_com e, List.set_set]
mutual
theorem gT_ok : ∀ {tg : Tg} {t : T} {o : Own} {v : V} {ρ ρ' : Env} {σ : L2.St} {τ : List Gp} {Q : L2.St → Hp → Prop}, I K H0 F0 ρ σ (g1 o t v :: τ) H → o.isView = false → bindT tg t o ρ = some ρ' →
    (∀ σ', I K H0 F0 ρ' σ' τ H → (∀ own, tgIn own tg = true → Off own σ σ') → Q σ' H) → gT K tg v σ H Q
  | .nm i, t, o, v, ρ, ρ', σ, τ, Q, h, nv, e, q => by
    simp only [bindT] at e
    split at e
    · rename_i hi
      cases e
      simp only [gT]
      refine q _ ?_ fun own h => wipe_set (by simpa [tgIn] using h)
      cases n : t.nl with
      | true => exact (h.nl (o' := .full) n).put rfl hi
      | false => exact h.put nv hi
    · cases e
  | .tp ts, .tup xs, o, v, ρ, ρ', σ, τ, Q, h, nv, e, q => by
    simp only [bindT] at e
    obtain ⟨a, ws, rfl, rd, hl, h2⟩ := h.kidsT
    obtain ⟨e1, e2⟩ := kidO_eq nv
    rw [e1] at h2
    simp only [gT]
    have hlen : xs.length = ts.length := bindTs_len e
    exact ⟨a, ws, rfl, rd, by rw [← hl, hlen], gTs_ok h2 e2 e q⟩
  | .tp _, .non, _, _, _, _, _, _, _, _, _, e, _ => by simp [bindT] at e
  | .tp _, .bl _, _, _, _, _, _, _, _, _, _, e, _ => by simp [bindT] at e
  | .tp _, .int _, _, _, _, _, _, _, _, _, _, e, _ => by simp [bindT] at e
  | .tp _, .str _, _, _, _, _, _, _, _, _, _, e, _ => by simp [bindT] at e
  | .tp _, .lst _, _, _, _, _, _, _, _, _, _, e, _ => by simp [bindT] at e
  | .tp _, .dct _ _, _, _, _, _, _, _, _, _, _, e, _ => by simp [bindT] at e
  | .tp _, .obj _ _ _, _, _, _, _, _, _, _, _, _, e, _ => by simp [bindT] at e
theorem gTs_ok : ∀ {ts : List Tg} {xs : List T} {o : Own} {vs : List V} {ρ ρ' : Env} {σ : L2.St} {τ : List Gp} {Q : L2.St → Hp → Prop}, I K H0 F0 ρ σ (⟨o, xs, vs⟩ :: τ) H → o.isView = false → bindTs ts xs o ρ = some ρ' →
    (∀ σ', I K H0 F0 ρ' σ' τ H → (∀ own, tgsIn own ts = true → Off own σ σ') → Q σ' H) → gTs K ts vs σ H Q
  | [], [], o, vs, ρ, ρ', σ, τ, Q, h, nv, e, q => by
    simp only [bindTs] at e
    cases e
    simp only [gTs]
    obtain ⟨F, fp, s, r⟩ := h.see
    cases vs with
    | nil => exact ⟨rfl, q _ h.drop fun _ _ => rfl⟩
    | cons _ _ => simp [RpL] at r
  | t :: ts, x :: xs, o, vs, ρ, ρ', σ, τ, Q, h, nv, e, q => by
    simp only [bindTs] at e
    obtain ⟨ρ1, e1, e2⟩ := obind e
    obtain ⟨v, ws, rfl, h2⟩ := h.uncons
    simp only [gTs]
    refine ⟨v, ws, rfl, gT_ok h2 nv e1 fun σ1 h3 o1 => ?_⟩
    refine gTs_ok h3 nv e2 fun σ2 h4 o2 => q σ2 h4 fun own ho => ?_
    simp only [tgsIn, Bool.and_eq_true] at ho
    exact (o2 own ho.2).trans (o1 own ho.1)
  | [], _ :: _, _, _, _, _, _, _, _, _, _, e, _ => by simp [bindTs] at e
  | _ :: _, [], _, _, _, _, _, _, _, _, _, e, _ => by simp [bindTs] at e
theorem bindTs_len : ∀ {ts : List Tg} {xs : List T} {o : Own} {ρ ρ' : Env}, bindTs ts xs o ρ = some ρ' → xs.length = ts.length
  | [], [], _, _, _, _ => rfl
  | t :: ts, x :: xs, o, ρ, ρ', e => by
    simp only [bindTs] at e
    obtain ⟨ρ1, e1, e2⟩ := obind e
    simp [bindTs_len e2]
  | [], _ :: _, _, _, _, e => by simp [bindTs] at e
  | _ :: _, [], _, _, _, e => by simp [bindTs] at e
end
end
end Ev
namespace Ev
open PySem PySem.Spec PyProof.Rows L2
section
variable {P : Program} {w : World} {K : PySem.W.Frag} {mg : Str → Option Value} {base : Heap} {k : Nat} {N : List Str} {sc : Scope} {U : BF → Bool} {G : List Nat → Option T} {C : List Nat → List T → Option (T × Own)}
variable {X : Cx} {H0 F0 H H' F : Hp} {ρ ρ' : Env} {σ : L2.St} {τ : List Gp} {t u y : T} {o q : Own} {va vb v : V} {r : R} {Q : VK} {ts : List T} {vs : List V}
/-- a part of the claim on top is given up -/
theorem I.frzPart {g : Gp} (h : I K H0 F0 ρ σ (g :: τ) H) (q : ∀ F fp, Same F H → RpL K F H g.o g.ts g.vs fp → (∀ a ∈ fp, F a = none) → fp.Nodup → ∃ fk fp' : List Addr, (∀ a ∈ fk, a ∈ fp) ∧ fp'.Sublist fp ∧ (∀ a ∈ fp', a ∉ fk) ∧
    ∀ F', Same F F' → (∀ a ∈ fk, F' a = H a) → (∀ a ∈ fp', F' a = none) → RpL K F' H o ts vs fp') : I K H0 F0 ρ σ (⟨o, ts, vs⟩ :: τ) H := by
  obtain ⟨F, fρ, fτ, c⟩ := h
  obtain ⟨f1, f2, h1, h2, ef⟩ := c.tmp
  subst ef
  have nd := c.nd
  rw [List.nodup_append] at nd
  obtain ⟨n1, n2, n3⟩ := nd
  rw [List.nodup_append] at n2
  obtain ⟨n4, n5, n6⟩ := n2
  obtain ⟨fk, fp', s1, s2, s3, q⟩ := q F f1 c.fh h1 (fun a m => (c.ow a (by simp [m])).2) n4
  have hin : ∀ a, a ∈ fk → (fun a => if a ∈ fk then H a else F a) a = H a := fun a m => if_pos m
  have hout : ∀ a, a ∉ fk → (fun a => if a ∈ fk then H a else F a) a = F a := fun a n => if_neg n
  have hF : Same F (fun a => if a ∈ fk then H a else F a) := fun a x e => by
    by_cases m : a ∈ fk
    · rw [hin a m]; exact c.fh a x e
    · rw [hout a m]; exact e
  have o1 : ∀ a ∈ fp', (fun a => if a ∈ fk then H a else F a) a = none := fun a m => by
    rw [hout a (s3 a m)]; exact (c.ow a (by simp [s2.subset m])).2
  have o2 : ∀ a ∈ f2, (fun a => if a ∈ fk then H a else F a) a = none := fun a m => by
    rw [hout a fun z => n6 a (s1 a z) a m rfl]; exact (c.ow a (by simp [m])).2
  have oρ : ∀ a ∈ fρ, (fun a => if a ∈ fk then H a else F a) a = none := fun a m => by
    rw [hout a fun z => n3 a m a (by simp [s1 a z]) rfl]; exact (c.ow a (by simp [m])).2
  refine ⟨fun a => if a ∈ fk then H a else F a, fρ, fp' ++ f2, fun a x e => ?_, c.h0, fun a n => ?_, fun a m => ?_, c.nd.sublist (List.Sublist.append (List.Sublist.refl _) (List.Sublist.append s2 (List.Sublist.refl _))), ?_, fp', f2, q _ hF hin o1, ?_, rfl⟩
  · by_cases m : a ∈ fk
    · have e : H a = some x := by rw [← hin a m]; exact e
      exact e
    · have e : F a = some x := by rw [← hout a m]; exact e
      exact c.fh a x e
  · exact (hout a fun m => n (c.ow a (by simp [s1 a m])).1).trans (c.f0 a n)
  · rcases List.mem_append.mp m with m | m
    · exact ⟨(c.ow a (by simp [m])).1, oρ a m⟩
    · rcases List.mem_append.mp m with m | m
      · exact ⟨(c.ow a (by simp [s2.subset m])).1, o1 a m⟩
      · exact ⟨(c.ow a (by simp [m])).1, o2 a m⟩
  · exact c.env.keep ⟨hF, fun _ _ e => e, fun a m => ⟨fun _ e => e, oρ a m⟩, fun e => by cases e⟩
  · exact h2.keep (Keep.frz hF o2) (fun e => by cases e)
/-- the outer list stays one's own, its items are shared -/
theorem I.toShal {xs : List T} (h : I K H0 F0 ρ σ (g1 o (.lst xs) v :: τ) H) (ho : o = .full ∨ o = .shal) : I K H0 F0 ρ σ (g1 .shal (.lst xs) v :: τ) H := by
  rcases ho with rfl | rfl
  · refine h.frzPart fun F fp s r n nd => ?_
    have r := RpL.one.mp r
    simp only [Rp] at r
    obtain ⟨a, ws, hd, fk, e0, ⟨e1, e2, e3⟩, rr, e4⟩ := r
    subst e0 e3 e4
    refine ⟨fk, [a], fun b m => by simp [m], by simp, fun b m z => ?_, fun F' sF hk hn => RpL.one.mpr ?_⟩
    · simp at m; subst m
      simp at nd
      exact nd.1 z
    · simp only [Rp]
      exact ⟨a, ws, [a], [], rfl, ⟨e1, hn a (by simp), rfl⟩, RpL.frz sF rfl hk rr, rfl⟩
  · exact h
theorem Keep.write {D : Addr} {ws ws' : List V} {fp : List Addr} (hD : H D = some (.lst ws)) (hn : D ∉ fp) (ho : ∀ a ∈ fp, F a = none) : Keep K F H F (upd H D (.lst ws')) false fp where
  fr := fun _ _ e => e
  tp := fun a xs h => by
    rcases h with (h | ⟨ob, h⟩) | h
    · exact .inl (.inl (by rw [upd_ne (ne_of h hD (by intro z; cases z))]; exact h))
    · exact .inl (.inr ⟨ob, by rw [upd_ne (ne_of h hD (by intro z; cases z))]; exact h⟩)
    · exact .inr h
  ow := fun a m => ⟨fun x e => by
    have : a ≠ D := fun z => hn (by rw [← z]; exact m)
    rw [upd_ne this]; exact e, ho a m⟩
  vw := fun e => by cases e
/-- a list that is one's own is changed -/
theorem I.write2 {g g' : Gp} {D : Addr} {ws ws' : List V} (h : I K H0 F0 ρ σ (g :: g' :: τ) H) (nv : NoV τ) (hD : H D = some (.lst ws))
    (q : ∀ F f1 f2, Same F H → RpL K F H g.o g.ts g.vs f1 → RpL K F H g'.o g'.ts g'.vs f2 → (∀ a ∈ f1 ++ f2, F a = none) → (f1 ++ f2).Nodup → D ∈ f2 ∧ ∃ fp', RpL K F (upd H D (.lst ws')) o ts vs fp' ∧ fp'.Perm (f1 ++ f2)) : I K H0 F0 ρ σ (⟨o, ts, vs⟩ :: τ) (upd H D (.lst ws')) := by
  obtain ⟨F, fρ, fτ, c⟩ := h
  obtain ⟨f1, f23, h1, ⟨f2, f3, h2, h3, rfl⟩, rfl⟩ := c.tmp
  have nd := c.nd
  rw [List.nodup_append] at nd
  obtain ⟨n1, n2, n3⟩ := nd
  rw [← List.append_assoc] at n2
  rw [List.nodup_append] at n2
  obtain ⟨n4, n5, n6⟩ := n2
  obtain ⟨dm, fp', r, p⟩ := q F f1 f2 c.fh h1 h2 (fun a m => (c.ow a (by simp only [List.mem_append] at m ⊢; grind)).2) n4
  have FD : F D = none := (c.ow D (by simp [dm])).2
  have HD0 : H0 D = none := (c.ow D (by simp [dm])).1
  have dρ : D ∉ fρ := fun m => n3 D m D (by simp [dm]) rfl
  have d3 : D ∉ f3 := fun m => n6 D (by simp [dm]) D m rfl
  refine ⟨F, fρ, fp' ++ f3, fun a x e => ?_, fun a x e => ?_, c.f0, fun a m => ?_, ?_, ?_, fp', f3, r, ?_, rfl⟩
  · have : a ≠ D := fun z => by rw [z, FD] at e; cases e
    rw [upd_ne this]; exact c.fh a x e
  · have : a ≠ D := fun z => by rw [z, HD0] at e; cases e
    rw [upd_ne this]; exact c.h0 a x e
  · refine c.ow a ?_
    simp only [List.mem_append] at m ⊢
    rcases m with m | m | m
    · exact .inl m
    · have := (p.mem_iff).mp m
      simp only [List.mem_append] at this
      grind
    · grind
  · have p2 : (fρ ++ (fp' ++ f3)).Perm (fρ ++ (f1 ++ (f2 ++ f3))) := by
      refine List.Perm.append_left _ ?_
      rw [← List.append_assoc (as := f1)]
      exact p.append_right _
    exact p2.nodup_iff.mpr c.nd
  · exact c.env.keep (Keep.write hD dρ fun a m => (c.ow a (by simp [m])).2)
  · exact h3.keep (Keep.write hD d3 fun a m => (c.ow a (by simp [m])).2) (fun _ g m => nv g m)
theorem minO_shal {a b : Own} (h : (a.isFull && b.isFull) = false) : minO a b = .shal := by
  unfold minO; rw [h]; rfl
/-- an item put behind a list that is one's own -/
theorem I.app {acc : List T} {D : Addr} {vy : V} (h : I K H0 F0 ρ σ (g1 q y vy :: g1 o (.lst acc) (.ref D) :: τ) H) (ho : o = .full ∨ o = .shal) (hq : q.isView = false) (nv : NoV τ) :
    ∃ ws, H D = some (.lst ws) ∧ acc.length = ws.length ∧ I K H0 F0 ρ σ (g1 (minO o q) (.lst (acc ++ [y])) (.ref D) :: τ) (upd H D (.lst (ws ++ [vy]))) := by
  obtain ⟨a, ws, e, rd, hl, _, own⟩ := h.drop.kidsL
  cases e
  have hD := own ho
  refine ⟨ws, hD, hl, ?_⟩
  have same : ∀ {ws' : List V}, Rd H D (.lst ws') → ws' = ws := fun z => by
    rcases z with z | ⟨ob, z⟩ <;> (rw [hD] at z; cases z)
    rfl
  cases hb : (o.isFull && q.isFull) with
  | true =>
    simp only [Bool.and_eq_true] at hb
    have e1 := full_of hb.1
    have e2 := full_of hb.2
    subst e1 e2
    refine h.write2 nv hD fun F f1 f2 s r1 r2 fn nd => ?_
    have r1 := RpL.one.mp r1
    have r2 := RpL.one.mp r2
    simp only [Rp] at r2
    obtain ⟨a, ws', hd, fk, e, ⟨h1, h2, e3⟩, rr2, e4⟩ := r2
    cases e
    subst e3 e4
    have := same (.inl h1)
    subst this
    have nd' := nd
    rw [List.nodup_append] at nd
    obtain ⟨n1, n2, n3⟩ := nd
    have d1 : D ∉ f1 := fun m => n3 D m D (by simp) rfl
    have dk : D ∉ fk := by
      simp only [List.singleton_append, List.nodup_cons] at n2
      exact n2.1
    refine ⟨by simp, [D] ++ (fk ++ f1), RpL.one.mpr ?_, ?_⟩
    · simp only [Rp]
      have k1 : RpL K F (upd H D (.lst (ws' ++ [vy]))) .full acc ws' fk := RpL.keep (Keep.write hD dk fun a m => fn a (by simp [m])) rr2
      have k2 : Rp K F (upd H D (.lst (ws' ++ [vy]))) .full y vy f1 := Rp.keep (Keep.write hD d1 fun a m => fn a (by simp [m])) r1
      exact ⟨D, ws' ++ [vy], [D], fk ++ f1, rfl, ⟨upd_same, h2, rfl⟩, RpL.append k1 (RpL.one.mpr k2), rfl⟩
    · rw [← List.append_assoc]
      exact List.perm_append_comm
  | false =>
    rw [minO_shal hb]
    have h1 := ((h.frz hq).swap.toShal ho).swap
    refine h1.write2 nv hD fun F f1 f2 s r1 r2 fn nd => ?_
    have e1 := RpL.none_of (.inl rfl) r1
    subst e1
    have r1 := RpL.one.mp r1
    have r2 := RpL.one.mp r2
    simp only [Rp] at r2
    obtain ⟨a, ws', hd, fk, e, ⟨h1, h2, e3⟩, rr2, e4⟩ := r2
    cases e
    subst e3 e4
    have := same (.inl h1)
    subst this
    have ek := RpL.none_of (.inl rfl) rr2
    subst ek
    refine ⟨by simp, [D], RpL.one.mpr ?_, by simp⟩
    simp only [Rp]
    have k1 : RpL K F (upd H D (.lst (ws' ++ [vy]))) .cold acc ws' [] := RpL.keep (Keep.write hD (by simp) fun a m => by simp at m) rr2
    have k2 : Rp K F (upd H D (.lst (ws' ++ [vy]))) .cold y vy [] := Rp.keep (Keep.write hD (by simp) fun a m => by simp at m) r1
    exact ⟨D, ws' ++ [vy], [D], [], rfl, ⟨upd_same, h2, rfl⟩, RpL.append k1 (RpL.one.mpr k2), rfl⟩
theorem I.wipe (h : I K H0 F0 ρ σ τ H) : ∀ own : List Nat, I K H0 F0 (wipeE own ρ) (L2.wipe σ own) τ H
  | [] => h
  | i :: is => (I.wipe h is).clear
def savG : List Nat → Env → L2.St → List Gp
  | [], _, _ => []
  | i :: is, ρ, σ => (match ρ[i]?, σ[i]? with
    | some (some (t, .full)), some (some v) => if t.nl then [g1 .full t v] else []
    | _, _ => []) ++ savG is ρ σ
theorem I.save (h : I K H0 F0 ρ σ τ H) : ∀ own : List Nat, I K H0 F0 ρ σ (savG own ρ σ ++ τ) H
  | [] => h
  | i :: is => by
    have h1 := I.save h is
    unfold savG
    split
    · rename_i t v e1 e2
      split
      · rename_i n
        obtain ⟨v', ev, _, _, _, hn⟩ := h1.look e1
        rw [e2] at ev; cases ev
        exact hn n
      · exact h1
    · exact h1
theorem savG_nov (own : List Nat) (ρ : Env) (σ : L2.St) : NoV (savG own ρ σ) := by
  induction own with
  | nil => intro g m; cases m
  | cons i is ih =>
    intro g m
    unfold savG at m
    rcases List.mem_append.mp m with m | m
    · split at m
      · split at m
        · simp at m; subst m; rfl
        · cases m
      · cases m
    · exact ih g m
def restS (σ₀ : L2.St) : List Nat → L2.St → L2.St
  | [], σ => σ
  | i :: is, σ => restS σ₀ is (σ.set i (σ₀[i]?.getD none))
theorem I.back {ρ₀ : Env} {σ₀ : L2.St} : ∀ {own : List Nat} {ρ : Env} {σ : L2.St}, I K H0 F0 ρ σ (savG own ρ₀ σ₀ ++ τ) H → ρ.length = ρ₀.length → (∀ i ∈ own, ∀ t o, ρ₀[i]? = some (some (t, o)) → ∃ v, σ₀[i]? = some (some v)) → I K H0 F0 (backE ρ₀ own ρ) (restS σ₀ own σ) τ H
  | [], _, _, h, _, _ => h
  | i :: is, ρ, σ, h, hl, hs => by
    unfold savG at h
    unfold backE restS
    have clr : ∀ {τ' : List Gp}, I K H0 F0 ρ σ (savG is ρ₀ σ₀ ++ τ) H → I K H0 F0 (ρ.set i none) (σ.set i (σ₀[i]?.getD none)) (savG is ρ₀ σ₀ ++ τ) H := fun h => h.clear
    refine I.back ?_ (by
      split
      · split <;> simpa using hl
      · simpa using hl) (fun j m => hs j (by simp [m]))
    split
    · rename_i t e1
      obtain ⟨v, ev⟩ := hs i (by simp) _ _ e1
      rw [e1, ev] at h
      dsimp only at h
      split
      · rename_i n
        rw [if_pos n] at h
        rw [ev]
        exact I.put h rfl (by rw [hl]; exact (List.getElem?_eq_some_iff.mp e1).1)
      · rename_i n
        rw [if_neg n] at h
        exact I.clear h
    · rename_i hx
      have : (match ρ₀[i]?, σ₀[i]? with
        | some (some (t, .full)), some (some v) => if t.nl = true then [g1 .full t v] else []
        | _, _ => []) = [] := by
        split
        · rename_i e1 e2
          exact absurd e1 (hx _)
        · rfl
      rw [this] at h
      exact I.clear h
theorem wipe_idem {own : List Nat} : ∀ {σ : L2.St}, L2.wipe (L2.wipe σ own) own = L2.wipe σ own := by
  intro σ
  have : ∀ (js : List Nat), (∀ j ∈ js, j ∈ own) → L2.wipe (L2.wipe σ js) own = L2.wipe σ own := by
    intro js
    induction js with
    | nil => intro _; rfl
    | cons j js ih =>
      intro h
      show L2.wipe ((L2.wipe σ js).set j none) own = _
      rw [wipe_set (h j (by simp)), ih fun i m => h i (by simp [m])]
  exact this own fun _ m => m
theorem rest_eq {σ₀ : L2.St} : ∀ {own : List Nat} {σ : L2.St}, σ.length = σ₀.length → (∀ j, j ∉ own → σ[j]? = σ₀[j]?) → restS σ₀ own σ = σ₀
  | [], σ, _, h => List.ext_getElem? fun j => h j (by simp)
  | i :: is, σ, hl, h => by
    unfold restS
    refine rest_eq (by simpa using hl) fun j m => ?_
    by_cases e : j = i
    · subst e
      by_cases hj : j < σ.length
      · rw [List.getElem?_set_self hj, List.getElem?_eq_getElem (by omega)]
        rfl
      · rw [List.getElem?_eq_none (by simpa using hj), List.getElem?_eq_none (by omega)]
    · rw [List.getElem?_set_ne (Ne.symm e)]
      exact h j (by simp [e, m])
theorem rest_wipe {own : List Nat} : restS σ own (L2.wipe σ own) = σ := rest_eq (wipe_length _ _) fun j m => wipe_out m
theorem wipeE_len : ∀ {own : List Nat} {ρ : Env}, (wipeE own ρ).length = ρ.length
  | [], _ => rfl
  | i :: is, ρ => by simp [wipeE, wipeE_len (own := is)]
end
end Ev
namespace Ev
open PySem PySem.Spec PyProof.Rows L2
section
variable {P : Program} {w : World} {K : PySem.W.Frag} {mg : Str → Option Value} {base : Heap} {k : Nat} {N : List Str} {sc : Scope} {U : BF → Bool} {G : List Nat → Option T} {C : List Nat → List T → Option (T × Own)}
variable {X : Cx} {H0 F0 H H' F : Hp} {ρ ρ' : Env} {σ : L2.St} {τ : List Gp}
/-- one reading for every context of the kind -/
theorem sv_all {d : Den} {pe : Expr} (h : SV P w K mg base k N sc d pe) : ∃ te : TE, (∀ X, XOk P w K mg base k N sc X → PE X pe te) ∧ ∀ H0 F0 ρ σ τ H r Q, I K H0 F0 ρ σ τ H → (d.c = true → NoV τ) → d.v ρ = some r →
    (∀ v H', I K H0 F0 r.ρ σ (g1 r.o r.t v :: τ) H' → (∀ i, r.o = .view i → σ[i]? = some (some v)) → Q v H') → te σ H Q :=
  ⟨fun σ H Q => ∀ X ok, Classical.choose (h X ok) σ H Q, fun X ok => ⟨fun pins s σ H Q I w => (Classical.choose_spec (h X ok)).1.run pins s σ H Q I (w X ok)⟩,
    fun H0 F0 ρ σ τ H r Q hI hv he q X ok => (Classical.choose_spec (h X ok)).2 H0 F0 ρ σ τ H r Q hI hv he q⟩
theorem st_all {d : Den} {pe : Expr} (h : ST P w K mg base k N sc d pe) : ∃ te : TT, (∀ X, XOk P w K mg base k N sc X → PT X pe te) ∧ ∀ H0 F0 ρ σ τ H r Q, I K H0 F0 ρ σ τ H → (d.c = true → NoV τ) → d.t ρ = some r →
    (∀ H', I K H0 F0 r.2 σ τ H' → Q r.1 H') → te σ H Q :=
  ⟨fun σ H Q => ∀ X ok, Classical.choose (h X ok) σ H Q, fun X ok => ⟨fun pins s σ H Q I w => (Classical.choose_spec (h X ok)).1.run pins s σ H Q I (w X ok)⟩,
    fun H0 F0 ρ σ τ H r Q hI hv he q X ok => (Classical.choose_spec (h X ok)).2 H0 F0 ρ σ τ H r Q hI hv he q⟩
inductive STs' (P : Program) (w : World) (K : PySem.W.Frag) (mg : Str → Option Value) (base : Heap) (k : Nat) (N : List Str) (sc : Scope) : List Den → List Expr → Prop
  | nil : STs' P w K mg base k N sc [] []
  | one {d : Den} {p : Expr} (h : ST P w K mg base k N sc d p) : STs' P w K mg base k N sc [d] [p]
theorem ifs_all {ds : List Den} {ps : List Expr} (h : STs' P w K mg base k N sc ds ps) : ∃ tt : TT, (∀ X, XOk P w K mg base k N sc X → PTs X ps tt) ∧ ∀ H0 F0 ρ σ τ H r Q, I K H0 F0 ρ σ τ H → NoV τ → evTs ds ρ = some r →
    (∀ H', I K H0 F0 r.2 σ τ H' → Q r.1 H') → tt σ H Q := by
  cases h with
  | nil => exact ⟨tYes, fun _ _ => pts_nil, fun H0 F0 ρ σ τ H r Q hI _ he q => by cases he; exact q _ hI⟩
  | one h =>
    obtain ⟨te, h1, h2⟩ := st_all h
    exact ⟨te, fun X ok => pts_one (h1 X ok), fun H0 F0 ρ σ τ H r Q hI nv he q => h2 _ _ _ _ _ _ _ _ hI (fun _ => nv) he q⟩
theorem blk_ok {scope : Scope} {s : Shared} {cl : List (Str × Addr)} {A : Addr} {fp : List Addr} (ok : XOk P w K mg base k N sc X) : XOk P w K mg base k N (relS scope sc) (X.blk s H scope (compEnvC scope cl A X.env) fp) where
  prog := ok.prog
  w_ := ok.w_
  K_ := ok.K_
  mg_ := ok.mg_
  base_ := ok.base_
  N_ := ok.N_
  nd := ok.nd
  sc_ := by rw [← ok.sc_]; rfl
  calm := ok.calm
  room := ok.room
theorem blk_tok {scope : Scope} {s : Shared} {cl : List (Str × Addr)} {A : Addr} {fp : List Addr} (ok : XOk P w K mg base k N sc X) : TOk K N scope (X.blk s H scope (compEnvC scope cl A X.env) fp) where
  K_ := ok.K_
  N_ := ok.N_
  nd := ok.nd
  calm := ok.calm
  loc := fun x h => by
    unfold locB at h
    split at h
    · rename_i e
      have e2 : (compEnvC scope cl A X.env).scope.names.lookup x = some .local := lookup_relS_keep (by intro z; cases z) e
      exact ⟨.inl e2, .inr e2⟩
    · rename_i e
      have e2 : (compEnvC scope cl A X.env).scope.names.lookup x = some .cell := lookup_relS_keep (by intro z; cases z) e
      refine ⟨.inr e2, .inl ?_⟩
      show (scope.names.lookup x == some .cell) = true
      rw [e]; rfl
    · cases h
theorem I.rot {g : Gp} (h : I K H0 F0 ρ σ (g :: τ) H) {τ' : List Gp} (p : (g :: τ).Perm τ') : I K H0 F0 ρ σ τ' H := h.perm p
theorem lcLoop_len {own : List Nat} {bind : T → Env → Option Env} {tests : Env → Option (Bool × Env)} {elt : Env → Option R} : ∀ {xs acc : List T} {o : Own} {ρ : Env} {y : List T × Own × Env}, lcLoop own bind tests elt xs acc o ρ = some y → (o = .full ∨ o = .shal) → y.2.1 = .full ∨ y.2.1 = .shal
  | [], acc, o, ρ, y, e, h => by cases e; exact h
  | x :: xs, acc, o, ρ, y, e, h => by
    simp only [lcLoop] at e
    obtain ⟨ρ1, _, e⟩ := obind e
    obtain ⟨bρ, _, e⟩ := obind e
    split at e
    · obtain ⟨r, _, e⟩ := obind e
      split at e
      · exact lcLoop_len e (by unfold minO; split <;> simp)
      · cases e
    · exact lcLoop_len e h
theorem lc_all {elt it : E} {tg : Tg} {ifs : List E} {own : List (Str × Nat)} {pelt ptg pit : Expr} {pifs : List Expr} {scope : Scope}
    (hi : SI P w K mg base k N sc (den G C it) ptg pit) (hg : mG N scope tg ptg = true) (ht : tgIn (own.map (·.2)) tg = true)
    (hs : STs' P w K mg base k N (relS scope sc) (denL G C ifs) pifs) (he : SV P w K mg base k N (relS scope sc) (den G C elt) pelt) : ∀ X, XOk P w K mg base k N sc X → ∃ wi tt te, PI X ptg pit wi ∧
      (∀ (s : Shared) (H : Hp) (A : Addr) (cl : List (Str × Addr)) (fp : List Addr), PG (X.blk s H scope (compEnvC scope cl A X.env) fp) ptg (gT K tg)) ∧ (∀ (s : Shared) (H : Hp) (A : Addr) (cl : List (Str × Addr)) (fp : List Addr), PTs (X.blk s H scope (compEnvC scope cl A X.env) fp) pifs tt) ∧
      (∀ (s : Shared) (H : Hp) (A : Addr) (cl : List (Str × Addr)) (fp : List Addr), PE (X.blk s H scope (compEnvC scope cl A X.env) fp) pelt te) ∧
      ∀ H0 F0 ρ σ τ H r (Q : VK), I K H0 F0 ρ σ τ H → NoV τ → (den G C (.lc elt tg it ifs (own.map (·.2)))).v ρ = some r → (∀ v H', I K H0 F0 r.ρ σ (g1 r.o r.t v :: τ) H' → r.o.isView = false → Q v H') →
        tLc wi (gT K tg) tt te (own.map (·.2)) σ H Q := fun X ok => by
  obtain ⟨wi, p1, q1⟩ := hi X ok
  obtain ⟨tt, p2, q2⟩ := ifs_all hs
  obtain ⟨te, p3, q3⟩ := sv_all he
  refine ⟨wi, tt, te, p1, fun s H A cl fp => pg_ok (blk_tok ok) hg, fun s H A cl fp => p2 _ (blk_ok ok), fun s H A cl fp => p3 _ (blk_ok ok), fun H0 F0 ρ σ τ H r Q hI nτ he q => ?_⟩
  generalize own.map (·.2) = ow at *
  simp only [den, valD] at he
  obtain ⟨x, e1, he⟩ := obind he
  obtain ⟨y, e2, rfl⟩ := omap he
  refine q1 _ _ _ _ _ _ x _ hI (fun _ => nτ) e1 fun J g H1 hW h1 D hD => ?_
  obtain ⟨xs, ρ1⟩ := x
  have hlk : ∀ i ∈ ow, ∀ t o, ρ1[i]? = some (some (t, o)) → ∃ v, σ[i]? = some (some v) := fun i _ t o e => by
    obtain ⟨v, ev, _⟩ := h1.look e
    exact ⟨v, ev⟩
  have h2 : I K H0 F0 (wipeE ow ρ1) (L2.wipe σ ow) (g1 .full (.lst []) (.ref D) :: g :: (savG ow ρ1 σ ++ τ)) (upd H1 D (.lst [])) := by
    have a := (h1.save ow).wipe ow
    have b : I K H0 F0 (wipeE ow ρ1) (L2.wipe σ ow) (g :: (savG ow ρ1 σ ++ τ)) H1 := a.perm List.perm_middle
    exact I.newLst (o := .full) (I.nil b) (.inl rfl) hD
  have nS : NoV (savG ow ρ1 σ ++ τ) := fun g m => by
    rcases List.mem_append.mp m with m | m
    · exact savG_nov _ _ _ g m
    · exact nτ g m
  refine ⟨fun i m H => m = xs.length - i ∧ i ≤ xs.length ∧ ∃ acc o ρi, lcLoop ow (fun x ρ => bindT tg x .cold ρ) (fun ρ => evTs (denL G C ifs) ρ) (fun ρ => ((den G C elt).v ρ).bind val) (xs.drop i) acc o ρi = some y ∧ (o = .full ∨ o = .shal) ∧
    I K H0 F0 (wipeE ow ρi) (L2.wipe σ ow) (g1 o (.lst acc) (.ref D) :: g :: (savG ow ρ1 σ ++ τ)) H, ⟨xs.length, by simp, Nat.zero_le _, [], .full, ρ1, by simpa using e2, .inl rfl, h2⟩, ?_⟩
  rintro i m H5 ⟨rfl, hle, acc, o, ρi, el, ho, h3⟩
  by_cases hlt : i < xs.length
  · refine .inr ⟨hW.go i _ _ _ _ _ _ h3.swap hlt, _, fun H' nx => ⟨xs.length - (i + 1), by omega, nx⟩, fun v H6 hy => ?_⟩
    rw [List.drop_eq_getElem_cons hlt] at el
    simp only [lcLoop] at el
    obtain ⟨ρ2, e3, el⟩ := obind el
    obtain ⟨bρ, e4, el⟩ := obind el
    have h4 := hW.yld i xs[i] _ _ _ _ _ _ v H6 h3.swap (List.getElem?_eq_getElem hlt) hy
    refine gT_ok h4 rfl e3 fun σ2 h5 off => ?_
    have w2 : L2.wipe σ2 ow = L2.wipe σ ow := (off ow ht).trans wipe_idem
    have n5 : NoV (g :: g1 o (.lst acc) (.ref D) :: (savG ow ρ1 σ ++ τ)) := fun z m => by
      rcases List.mem_cons.mp m with rfl | m
      · rw [hW.cold]; rfl
      rcases List.mem_cons.mp m with rfl | m
      · rcases ho with rfl | rfl <;> rfl
      · exact nS z m
    refine ⟨w2, q2 _ _ _ _ _ _ bρ _ h5 n5 e4 fun H7 h6 => ?_⟩
    obtain ⟨b, ρ3⟩ := bρ
    cases b with
    | false =>
      simp only [Bool.false_eq_true, if_false] at el ⊢
      have h7 := h6.swap.wipe ow
      rw [w2] at h7
      exact ⟨trivial, hlt, acc, o, ρ3, el, ho, h7⟩
    | true =>
      simp only [if_true] at el ⊢
      obtain ⟨rr, e5, el⟩ := obind el
      obtain ⟨r0, e6, e7⟩ := obind e5
      split at el
      · rename_i hz
        refine q3 _ _ _ _ _ _ r0 _ h6 (fun _ => n5) e6 fun v2 H8 h7 l7 => ?_
        obtain ⟨nv, h8⟩ := h7.val e7 l7
        have h9 := (h8.perm (τ' := g1 rr.o rr.t v2 :: g1 o (.lst acc) (.ref D) :: g :: (savG ow ρ1 σ ++ τ)) ((List.Perm.swap _ _ _).cons _)).app ho nv (fun z m => by
          rcases List.mem_cons.mp m with rfl | m
          · rw [hW.cold]; rfl
          · exact nS z m)
        obtain ⟨ws, hD8, hl, h10⟩ := h9
        refine ⟨ws, hD8, by omega, trivial, hlt, _, _, rr.ρ, el, by unfold minO; split <;> simp, ?_⟩
        have h11 := h10.wipe ow
        rw [w2] at h11
        exact h11
      · cases el
  · have ei : i = xs.length := by omega
    subst ei
    refine .inl ⟨hW.stop _ _ _ _ _ _ _ h3.swap (Nat.le_refl _), ?_⟩
    rw [List.drop_length] at el
    simp only [lcLoop, Option.some.injEq] at el
    subst el
    have h4 : I K H0 F0 (wipeE ow ρi) (L2.wipe σ ow) (savG ow ρ1 σ ++ (g1 o (.lst acc) (.ref D) :: τ)) H5 := h3.drop2.perm List.perm_middle.symm
    have h5 := I.back h4 (by rw [h4.len, wipe_length, ← h1.len]) hlk
    rw [rest_wipe] at h5
    refine q _ _ h5 ?_
    rcases ho with rfl | rfl <;> rfl
theorem sv_lc {elt it : E} {tg : Tg} {ifs : List E} {own : List (Str × Nat)} {pelt ptg pit : Expr} {pifs : List Expr} {scope : Scope} {pos : Pos}
    (hi : SI P w K mg base k N sc (den G C it) ptg pit) (hb : blkC N sc scope own = true) (hg : mG N scope tg ptg = true) (ht : tgIn (own.map (·.2)) tg = true)
    (hs : STs' P w K mg base k N (relS scope sc) (denL G C ifs) pifs) (he : SV P w K mg base k N (relS scope sc) (den G C elt) pelt) (hf : ∀ env x, foldedSetIterable pit env x = pure x) :
    SV P w K mg base k N sc (den G C (.lc elt tg it ifs (own.map (·.2)))) (.ListComp pelt [⟨ptg, pit, pifs, 0⟩] scope pos) := fun X ok => by
  obtain ⟨wi, tt, te, p1, p2, p3, p4, q1⟩ := lc_all hi hg ht hs he X ok
  exact ⟨_, pe_lc (own := own) ok.calm (by rw [ok.N_]; exact ok.nd) p1 (blkOk_by (by rw [ok.N_, ok.sc_]; exact hb)) p2 p3 p4 (hf X.env), fun H0 F0 ρ σ τ H r Q hI hv he q =>
    q1 _ _ _ _ _ _ r _ hI (hv rfl) he fun v H' h n => q v H' h (nolink n)⟩
end
end Ev
namespace Ev
open PySem PySem.Spec PyProof.Rows L2
section
variable {P : Program} {w : World} {K : PySem.W.Frag} {mg : Str → Option Value} {base : Heap} {k : Nat} {N : List Str} {U : BF → Bool} {G : List Nat → Option T} {C : List Nat → List T → Option (T × Own)}
structure OKE (P : Program) (w : World) (K : PySem.W.Frag) (mg : Str → Option Value) (base : Heap) (k : Nat) (N : List Str) (sc : Scope) (e : E) (d : Den) (pe : Expr) : Prop where
  v : SV P w K mg base k N sc d pe
  t : ST P w K mg base k N sc d pe
  i : ∀ tg, (e.two = true → ∃ es k p, tg = .Tuple es k p) → SI P w K mg base k N sc d tg pe
  pl : Plain pe
/-- a plain value's form -/
theorem oke_of {sc : Scope} {e : E} {d : Den} {pe : Expr} (h : SV P w K mg base k N sc d pe) (ht : d.t = tOf d.v) (hi : d.i = iOf d.v) (tr : TruE pe) (pl : Plain pe) : OKE P w K mg base k N sc e d pe :=
  ⟨h, st_of h ht tr, fun tg _ => si_of h hi, pl⟩
theorem oke_tst {sc : Scope} {e : E} {d : Den} {pe : Expr} (h : SV P w K mg base k N sc d pe) (ht : ST P w K mg base k N sc d pe) (hi : d.i = iOf d.v) (pl : Plain pe) : OKE P w K mg base k N sc e d pe :=
  ⟨h, ht, fun tg _ => si_of h hi, pl⟩
theorem sv_none {sc : Scope} {d : Den} {pe : Expr} (h : ∀ ρ, d.v ρ = none) : SV P w K mg base k N sc d pe := fun X ok =>
  ⟨fun _ _ _ => False, ⟨fun _ _ _ _ _ _ z => z.elim⟩, fun H0 F0 ρ σ τ H r Q hI hv he q => by rw [h] at he; cases he⟩
theorem st_none {sc : Scope} {d : Den} {pe : Expr} (h : ∀ ρ, d.t ρ = none) : ST P w K mg base k N sc d pe := fun X ok =>
  ⟨fun _ _ _ => False, ⟨fun _ _ _ _ _ _ z => z.elim⟩, fun H0 F0 ρ σ τ H r Q hI hv he q => by rw [h] at he; cases he⟩
theorem oke_it {sc : Scope} {e : E} {d : Den} {pe : Expr} (h1 : ∀ ρ, d.v ρ = none) (h2 : ∀ ρ, d.t ρ = none) (hi : ∀ tg, (e.two = true → ∃ es k p, tg = .Tuple es k p) → SI P w K mg base k N sc d tg pe) (pl : Plain pe) : OKE P w K mg base k N sc e d pe :=
  ⟨sv_none h1, st_none h2, hi, pl⟩
theorem ascOf {s : List Nat} (h : ascB s = true) : Ascii s := by
  unfold ascB at h
  simp only [Bool.and_eq_true, decide_eq_true_eq, List.all_eq_true] at h
  exact h
theorem pe_nonE {X : Cx} {j : Nat} {pos : Pos} : PE X (.Constant .none j pos) (tC .non) := by
  exact pe_non
theorem isTp_of {N : List Str} {sc : Scope} {tg : Tg} {p : Expr} (h : tg.isTp = true) (m : mG N sc tg p = true) : ∃ es k q, p = .Tuple es k q := by
  cases tg with
  | nm i => cases h
  | tp ts =>
    unfold mG at m
    split at m
    · exact ⟨_, _, _, rfl⟩
    · cases m
theorem mEs_len : ∀ {es : List E} {ps : List Expr} {sc : Scope}, mEs U N sc es ps = true → es.length = ps.length
  | [], [], _, _ => rfl
  | [], _ :: _, _, h => by simp [mEs] at h
  | _ :: _, [], _, h => by simp [mEs] at h
  | e :: es, p :: ps, sc, h => by
    simp only [mEs, Bool.and_eq_true] at h
    simp [mEs_len h.2]
theorem STs.one {sc : Scope} {ds : List Den} {ps : List Expr} (h : STs P w K mg base k N sc ds ps) (hl : ps.length ≤ 1) : STs' P w K mg base k N sc ds ps := by
  cases h with
  | nil => exact .nil
  | cons h t =>
    cases t with
    | nil => exact .one h
    | cons _ _ => simp at hl
mutual
theorem okE (M : MOk K mg U G) (CO : COk P w K mg base k C) : ∀ (e : E) (sc : Scope) (pe : Expr), mE U N sc e pe = true → OKE P w K mg base k N sc e (den G C e) pe
  | .int i, sc, pe, h => by
    unfold mE at h
    split at h
    · have e := of_decide_eq_true h
      subst e
      exact oke_of (sv_const (v := .int i) (t := .int i) (fun X => pe_int) (fun ρ => by simp [den, valD]) (fun F H => by simp [Rp])) rfl rfl (fun _ _ => rfl) ⟨fun _ _ => rfl, fun _ _ => rfl, fun _ _ => rfl, fun _ _ _ => rfl, fun _ => rfl⟩
    · cases h
  | .bl i, sc, pe, h => by
    unfold mE at h
    split at h
    · have e := of_decide_eq_true h
      subst e
      exact oke_of (sv_const (v := .bl i) (t := .bl i) (fun X => pe_bl) (fun ρ => by simp [den, valD]) (fun F H => by simp [Rp])) rfl rfl (fun _ _ => rfl) ⟨fun _ _ => rfl, fun _ _ => rfl, fun _ _ => rfl, fun _ _ _ => rfl, fun _ => rfl⟩
    · cases h
  | .non, sc, pe, h => by
    unfold mE at h
    split at h
    · exact oke_of (sv_const (v := .non) (t := .non) (fun X => pe_nonE) (fun ρ => by simp [den, valD]) (fun F H => by simp [Rp])) rfl rfl (fun _ _ => rfl) ⟨fun _ _ => rfl, fun _ _ => rfl, fun _ _ => rfl, fun _ _ _ => rfl, fun _ => rfl⟩
    · cases h
  | .str s, sc, pe, h => by
    unfold mE at h
    split at h
    · simp only [Bool.and_eq_true, decide_eq_true_eq] at h
      obtain ⟨e, ha⟩ := h
      subst e
      exact oke_of (sv_const (v := .str (S8 s)) (t := .str s) (fun X => pe_str) (fun ρ => by simp [den, valD]) (fun F H => by simp [Rp, ascOf ha, S8])) rfl rfl (fun _ _ => rfl) ⟨fun _ _ => rfl, fun _ _ => rfl, fun _ _ => rfl, fun _ _ _ => rfl, fun _ => rfl⟩
    · cases h
  | .var i, sc, pe, h => by
    unfold mE at h
    split at h
    · exact oke_of (sv_var h) rfl rfl (fun _ _ => rfl) ⟨fun _ _ => rfl, fun _ _ => rfl, fun _ _ => rfl, fun _ _ _ => rfl, fun _ => rfl⟩
    · cases h
  | .mov i, sc, pe, h => by
    unfold mE at h
    split at h
    · exact oke_of (sv_mov h) rfl rfl (fun _ _ => rfl) ⟨fun _ _ => rfl, fun _ _ => rfl, fun _ _ => rfl, fun _ _ _ => rfl, fun _ => rfl⟩
    · cases h
  | .glob g, sc, pe, h => by
    unfold mE at h
    split at h
    · exact oke_of (sv_glob M h) rfl rfl (fun _ _ => rfl) ⟨fun _ _ => rfl, fun _ _ => rfl, fun _ _ => rfl, fun _ _ _ => rfl, fun _ => rfl⟩
    · cases h
  | .bin op a b, sc, pe, h => by
    unfold mE at h
    split at h
    · simp only [Bool.and_eq_true, decide_eq_true_eq] at h
      obtain ⟨⟨e, h1⟩, h2⟩ := h
      subst e
      exact oke_of (sv_bin (okE M CO a sc _ h1).v (okE M CO b sc _ h2).v) rfl rfl (fun _ _ => rfl) ⟨fun _ _ => rfl, fun _ _ => rfl, fun _ _ => rfl, fun _ _ _ => rfl, fun _ => rfl⟩
    · cases h
  | .neg a, sc, pe, h => by
    unfold mE at h
    split at h
    · exact oke_of (sv_neg (okE M CO a sc _ h).v) rfl rfl (fun _ _ => rfl) ⟨fun _ _ => rfl, fun _ _ => rfl, fun _ _ => rfl, fun _ _ _ => rfl, fun _ => rfl⟩
    · cases h
  | .notv a, sc, pe, h => by
    unfold mE at h
    split at h
    · exact oke_tst (sv_notv (okE M CO a sc _ h).v) (st_notv (okE M CO a sc _ h).t) rfl ⟨fun _ _ => rfl, fun _ _ => rfl, fun _ _ => rfl, fun _ _ _ => rfl, fun _ => rfl⟩
    · cases h
  | .cmp op a b, sc, pe, h => by
    unfold mE at h
    split at h
    · simp only [Bool.and_eq_true, decide_eq_true_eq] at h
      obtain ⟨⟨e, h1⟩, h2⟩ := h
      subst e
      have i1 := okE M CO a sc _ h1
      have i2 := okE M CO b sc _ h2
      exact oke_tst (sv_cmp i1.v i2.v (i2.pl.mark _)) (st_cmp i1.v i2.v (i2.pl.mark _)) rfl ⟨fun _ _ => rfl, fun _ _ => rfl, fun _ _ => rfl, fun _ _ _ => rfl, fun _ => rfl⟩
    · cases h
  | .chain op op' a b c, sc, pe, h => by
    unfold mE at h
    split at h
    · simp only [Bool.and_eq_true, decide_eq_true_eq] at h
      obtain ⟨⟨⟨⟨e, e'⟩, h1⟩, h2⟩, h3⟩ := h
      subst e e'
      have i1 := okE M CO a sc _ h1
      have i2 := okE M CO b sc _ h2
      have i3 := okE M CO c sc _ h3
      exact oke_tst (sv_chain i1.v i2.v i3.v (i3.pl.mark _)) (st_chain i1.v i2.v i3.v (i3.pl.mark _)) rfl ⟨fun _ _ => rfl, fun _ _ => rfl, fun _ _ => rfl, fun _ _ _ => rfl, fun _ => rfl⟩
    · cases h
  | .andv es, sc, pe, h => by
    unfold mE at h
    split at h
    · have i1 := okEs M CO es sc _ h
      exact oke_tst (sv_and i1.1) (st_and i1.2) rfl ⟨fun _ _ => rfl, fun _ _ => rfl, fun _ _ => rfl, fun _ _ _ => rfl, fun _ => rfl⟩
    · cases h
  | .orv es, sc, pe, h => by
    unfold mE at h
    split at h
    · have i1 := okEs M CO es sc _ h
      exact oke_tst (sv_or i1.1) (st_or i1.2) rfl ⟨fun _ _ => rfl, fun _ _ => rfl, fun _ _ => rfl, fun _ _ _ => rfl, fun _ => rfl⟩
    · cases h
  | .ife c a b, sc, pe, h => by
    unfold mE at h
    split at h
    · simp only [Bool.and_eq_true] at h
      obtain ⟨⟨h1, h2⟩, h3⟩ := h
      exact oke_tst (sv_ife (okE M CO c sc _ h1).t (okE M CO a sc _ h2).v (okE M CO b sc _ h3).v) (st_none fun _ => rfl) rfl ⟨fun _ _ => rfl, fun _ _ => rfl, fun _ _ => rfl, fun _ _ _ => rfl, fun _ => rfl⟩
    · cases h
  | .tup es, sc, pe, h => by
    unfold mE at h
    split at h
    · exact oke_of (sv_tup (okEs M CO es sc _ h).1) rfl rfl (fun _ _ => rfl) ⟨fun _ _ => rfl, fun _ _ => rfl, fun _ _ => rfl, fun _ _ _ => rfl, fun _ => rfl⟩
    · cases h
  | .lst es, sc, pe, h => by
    unfold mE at h
    split at h
    · exact oke_of (sv_lst (okEs M CO es sc _ h).1) rfl rfl (fun _ _ => rfl) ⟨fun _ _ => rfl, fun _ _ => rfl, fun _ _ => rfl, fun _ _ _ => rfl, fun _ => rfl⟩
    · cases h
  | .ix a i, sc, pe, h => by
    unfold mE at h
    split at h
    · simp only [Bool.and_eq_true] at h
      have i2 := okE M CO i sc _ h.2
      exact oke_of (sv_ix (okE M CO a sc _ h.1).v i2.v i2.pl.ix) rfl rfl (fun _ _ => rfl) ⟨fun _ _ => rfl, fun _ _ => rfl, fun _ _ => rfl, fun _ _ _ => rfl, fun _ => rfl⟩
    · cases h
  | .sl a lo hi, sc, pe, h => by
    unfold mE at h
    split at h
    · simp only [Bool.and_eq_true] at h
      obtain ⟨⟨h1, h2⟩, h3⟩ := h
      exact oke_of (sv_sl (okE M CO a sc _ h1).v (okEs M CO lo sc _ h2).1 (okEs M CO hi sc _ h3).1) rfl rfl (fun _ _ => rfl) ⟨fun _ _ => rfl, fun _ _ => rfl, fun _ _ => rfl, fun _ _ _ => rfl, fun _ => rfl⟩
    · cases h
  | .rev a, sc, pe, h => by
    unfold mE at h
    split at h
    · exact oke_of (sv_rev (okE M CO a sc _ h).v) rfl rfl (fun _ _ => rfl) ⟨fun _ _ => rfl, fun _ _ => rfl, fun _ _ => rfl, fun _ _ _ => rfl, fun _ => rfl⟩
    · cases h
  | .call f es, sc, pe, h => by
    unfold mE at h
    split at h
    · simp only [Bool.and_eq_true] at h
      exact oke_of (sv_call CO h.1 (okEs M CO es sc _ h.2).1) rfl rfl (fun _ _ => rfl) ⟨fun _ _ => rfl, fun _ _ => rfl, fun _ _ => rfl, fun _ _ _ => rfl, fun _ => rfl⟩
    · cases h
  | .blt f es, sc, pe, h => by
    unfold mE at h
    split at h
    · simp only [Bool.and_eq_true] at h
      exact oke_of (sv_blt M h.1.2 h.1.1 (okEs M CO es sc _ h.2).1) rfl rfl (fun _ _ => rfl) ⟨fun _ _ => rfl, fun _ _ => rfl, fun _ _ => rfl, fun _ _ _ => rfl, fun _ => rfl⟩
    · cases h
  | .isi a c, sc, pe, h => by
    unfold mE at h
    split at h
    · simp only [Bool.and_eq_true] at h
      have i1 := okE M CO a sc _ h.2
      exact oke_of (sv_isi M h.1.1 h.1.2 i1.v i1.pl) rfl rfl (fun _ _ => rfl) ⟨fun _ _ => rfl, fun _ _ => rfl, fun _ _ => rfl, fun _ _ _ => rfl, fun _ => rfl⟩
    · cases h
  | .meth f o es, sc, pe, h => by
    unfold mE at h
    split at h
    · simp only [Bool.and_eq_true, decide_eq_true_eq] at h
      obtain ⟨⟨⟨e, hl⟩, h1⟩, h2⟩ := h
      have i1 := okE M CO o sc _ h1
      have i2 := okEs M CO es sc _ h2
      have hn := mEs_len h2
      match es, hn, i2, h2 with
      | [a], _, i2, h2 =>
        have z : SVs P w K mg base k N sc [den G C a] _ := i2.1
        cases z with
        | cons hv pl _ => exact oke_of (sv_meth e hl i1.v i1.pl hv pl) rfl rfl (fun _ _ => rfl) ⟨fun _ _ => rfl, fun _ _ => rfl, fun _ _ => rfl, fun _ _ _ => rfl, fun _ => rfl⟩
    · cases h
  | .lc elt tg it ifs own, sc, pe, h => by
    unfold mE at h
    split at h
    · simp only [Bool.and_eq_true, decide_eq_true_eq] at h
      obtain ⟨⟨⟨⟨⟨⟨⟨⟨h1, h2⟩, ht⟩, h3⟩, h4⟩, h5⟩, h6⟩, h7⟩, h8⟩ := h
      have i1 := okE M CO it sc _ h3
      have i2 := okEs M CO ifs _ _ h6
      have i3 := okE M CO elt _ _ h7
      have z := sv_lc (G := G) (C := C) (elt := elt) (it := it) (pos := by assumption) (i1.i _ fun e => isTp_of (by rw [e] at ht; simpa using ht) h4) h1 h4 (by rw [h2]; exact h5) (i2.2.one h8) i3.v i1.pl.fsi
      rw [h2] at z
      exact oke_of z rfl rfl (fun _ _ => rfl) ⟨fun _ _ => rfl, fun _ _ => rfl, fun _ _ => rfl, fun _ _ _ => rfl, fun _ => rfl⟩
    · cases h
  | .lc2 _ _ _ _ _ _ _ _ _, sc, pe, h => by simp [mE] at h
  | .rng es, sc, pe, h => by
    unfold mE at h
    split at h
    · simp only [Bool.and_eq_true] at h
      exact oke_it (fun _ => rfl) (fun _ => rfl) (fun tg _ => si_rng M h.1 (okEs M CO es sc _ h.2).1) ⟨fun _ _ => rfl, fun _ _ => rfl, fun _ _ => rfl, fun _ _ _ => rfl, fun _ => rfl⟩
    · cases h
  | .zip a b, sc, pe, h => by
    unfold mE at h
    split at h
    · simp only [Bool.and_eq_true] at h
      have i1 := okE M CO a sc _ h.1.2
      have i2 := okE M CO b sc _ h.2
      refine oke_it (fun _ => rfl) (fun _ => rfl) (fun tg ht => ?_) ⟨fun _ _ => rfl, fun _ _ => rfl, fun _ _ => rfl, fun _ _ _ => rfl, fun _ => rfl⟩
      obtain ⟨es, kk, p, rfl⟩ := ht rfl
      exact si_zip M h.1.1 i1.v i1.pl i2.v i2.pl
    · cases h
  | .enum a, sc, pe, h => by
    unfold mE at h
    split at h
    · simp only [Bool.and_eq_true] at h
      have i1 := okE M CO a sc _ h.2
      refine oke_it (fun _ => rfl) (fun _ => rfl) (fun tg ht => ?_) ⟨fun _ _ => rfl, fun _ _ => rfl, fun _ _ => rfl, fun _ _ _ => rfl, fun _ => rfl⟩
      obtain ⟨es, kk, p, rfl⟩ := ht rfl
      exact si_enum M h.1 i1.v i1.pl
    · cases h
  | .revd a, sc, pe, h => by
    unfold mE at h
    split at h
    · simp only [Bool.and_eq_true] at h
      have i1 := okE M CO a sc _ h.2
      exact oke_it (fun _ => rfl) (fun _ => rfl) (fun tg ht => si_revd M h.1 i1.v i1.pl) ⟨fun _ _ => rfl, fun _ _ => rfl, fun _ _ => rfl, fun _ _ _ => rfl, fun _ => rfl⟩
    · cases h
theorem okEs (M : MOk K mg U G) (CO : COk P w K mg base k C) : ∀ (es : List E) (sc : Scope) (ps : List Expr), mEs U N sc es ps = true → SVs P w K mg base k N sc (denL G C es) ps ∧ STs P w K mg base k N sc (denL G C es) ps
  | [], sc, ps, h => by
    unfold mEs at h
    split at h
    · exact ⟨.nil, .nil⟩
    · cases h
  | e :: es, sc, ps, h => by
    unfold mEs at h
    split at h
    · simp only [Bool.and_eq_true] at h
      have i1 := okE M CO e sc _ h.1
      have i2 := okEs M CO es sc _ h.2
      exact ⟨.cons i1.v i1.pl i2.1, .cons i1.t i2.2⟩
    · cases h
end
end
end Ev
namespace Ev
open PySem PySem.Spec PyProof.Rows L2
def isLc : Expr → Bool
  | .ListComp .. => true
  | .SetComp .. => true
  | .DictComp .. => true
  | _ => false
def isSl : Expr → Bool
  | .Slice .. => true
  | _ => false
def isStar : Expr → Bool
  | .Starred .. => true
  | _ => false
def swNone : Expr → Bool
  | .Tuple vs _ _ => vs.all (foldedForSure 8)
  | _ => true
section
variable (U : BF → Bool) (N : List Str)
mutual
def mS (sc : Scope) : S → Stmt → Bool
  | .set i e, st => match st with
    | .Assign [.Name x _] pe _ => decide (N[i]? = some x) && locB sc x && !isLc pe && mE U N sc e pe
    | _ => false
  | .setc i elt tg it ifs own, st => match st with
    | .Assign [.Name x _] pe _ => decide (N[i]? = some x) && locB sc x && mE U N sc (.lc elt tg it ifs own) pe
    | _ => false
  | .asg tg e, st => match st with
    | .Assign [ptg] pe _ => tg.isTp && mG N sc tg ptg && swNone pe && mE U N sc e pe
    | _ => false
  | .par i j a b, st => match st with
    | .Assign [.Tuple [.Name x px, .Name y py] _ _] (.Tuple [pa, pb] _ _) _ => decide (N[i]? = some x) && decide (N[j]? = some y) && decide (i ≠ j) && decide (sc.names.lookup x = some .local) && decide (sc.names.lookup y = some .local) &&
      (py.line == px.line) && !(isStar pa) && !(isStar pb) && !([pa, pb].all (foldedForSure 8)) && !([pa, pb].all (constantsAlone 8)) && mE U N sc a pa && mE U N sc b pb
    | _ => false
  | .aug i op e, st => match st with
    | .AugAssign (.Name x _) pop pe _ => decide (N[i]? = some x) && locB sc x && decide (pop = op.op) && mE U N sc e pe
    | _ => false
  | .app i ixs e, st => match st with
    | .Expr (.Call (.Attribute (.Name x _) m apos) [p] [] cpos) _ => nmB N sc i x && decide (m = "append") && (apos.endLine == cpos.line) && ixs.isEmpty && mE U N sc e p
    | _ => false
  | .seti i ixs kx e, st => match st with
    | .Assign [.Subscript (.Name x _) pk _] pe _ => nmB N sc i x && ixs.isEmpty && !isSl pk && mE U N sc kx pk && mE U N sc e pe
    | _ => false
  | .exp e, st => match st with
    | .Expr pe _ => !isLc pe && mE U N sc e pe
    | _ => false
  | .ret e, st => match st with
    | .Return (some pe) _ => mE U N sc e pe
    | _ => false
  | .retN, st => match st with
    | .Return none _ => true
    | _ => false
  | .ite c a b, st => match st with
    | .If pc pa pb _ => mE U N sc c pc && mSs sc a pa && mSs sc b pb
    | _ => false
  | .whl c b, st => match st with
    | .While pc pb [] _ => mE U N sc c pc && mSs sc b pb
    | _ => false
  | .for_ tg it b, st => match st with
    | .For ptg pit pb [] _ => (!it.two || tg.isTp) && mG N sc tg ptg && mE U N sc it pit && mSs sc b pb
    | _ => false
  | .pass, st => match st with
    | .Pass _ => true
    | .Expr (.Constant (.str _) _ _) _ => true
    | _ => false
  | .brk, st => match st with
    | .Break _ => true
    | _ => false
  | .cnt, st => match st with
    | .Continue _ => true
    | _ => false
def mSs (sc : Scope) : List S → List Stmt → Bool
  | [], sts => match sts with
    | [] => true
    | _ => false
  | s :: ss, sts => match sts with
    | st :: sts => mS sc s st && mSs sc ss sts
    | _ => false
end
end
structure SOk (P : Program) (w : World) (K : PySem.W.Frag) (mg : Str → Option Value) (base : Heap) (k : Nat) (N : List Str) (sc : Scope) (X : Cx) : Prop extends XOk P w K mg base k N sc X where
  own : PassesOwn (model X.prog X.w) X.A X.env X.xe
  kind : sc.kind = .function
  fn : ∀ x, X.fn x = true
def Post (K : PySem.W.Frag) (H0 F0 : Hp) (τ : List Gp) (D : Ends) : Fl → Prop
  | .nx ρ => ∀ σ H, I K H0 F0 ρ σ τ H → D.nx σ H
  | .bk ρ => ∀ σ H, I K H0 F0 ρ σ τ H → D.bk σ H
  | .ct ρ => ∀ σ H, I K H0 F0 ρ σ τ H → D.ct σ H
  | .rt t o => ∀ ρ σ v H, I K H0 F0 ρ σ (g1 o t v :: τ) H → o.isView = false → D.rt v H
def SS (P : Program) (w : World) (K : PySem.W.Frag) (mg : Str → Option Value) (base : Heap) (k : Nat) (N : List Str) (sc : Scope) (f : Env → Option Fl) (st : Stmt) : Prop := ∀ X, SOk P w K mg base k N sc X →
  ∃ t, PS X st t ∧ ∀ H0 F0 ρ σ τ H fl D, I K H0 F0 ρ σ τ H → NoV τ → f ρ = some fl → Post K H0 F0 τ D fl → t D σ H
def SSs (P : Program) (w : World) (K : PySem.W.Frag) (mg : Str → Option Value) (base : Heap) (k : Nat) (N : List Str) (sc : Scope) (f : Env → Option Fl) (st : List Stmt) : Prop := ∀ X, SOk P w K mg base k N sc X →
  ∃ t, PSs X st t ∧ ∀ H0 F0 ρ σ τ H fl D, I K H0 F0 ρ σ τ H → NoV τ → f ρ = some fl → Post K H0 F0 τ D fl → t D σ H
section
variable {P : Program} {w : World} {K : PySem.W.Frag} {mg : Str → Option Value} {base : Heap} {k : Nat} {N : List Str} {sc : Scope} {U : BF → Bool} {G : List Nat → Option T} {C : List Nat → List T → Option (T × Own)}
variable {X : Cx} {H0 F0 H H' F : Hp} {ρ ρ' : Env} {σ : L2.St} {τ : List Gp} {t u y : T} {o q : Own} {va vb v : V} {r : R} {Q : VK}
theorem I.bindN {i : Nat} (h : I K H0 F0 ρ σ (g1 o t v :: τ) H) (nv : o.isView = false) (e : bindT (.nm i) t o ρ = some ρ') : I K H0 F0 ρ' (σ.set i (some v)) τ H := by
  simp only [bindT] at e
  split at e
  · rename_i hi
    cases e
    split
    · rename_i n; exact (h.nl (o' := .full) n).put rfl hi
    · exact h.put nv hi
  · cases e
theorem noLc {pe : Expr} (h : isLc pe = false) : NoLc pe := by
  intro tg line env
  cases pe <;> first | rfl | (simp [isLc] at h)
theorem swT (pe : Expr) {es : List Expr} {kk : Nat} {p : Pos} (l : Nat) (env : PySem.Env) : swapsWith pe (some (.Tuple es kk p)) l env = pure false := by
  cases pe <;> rfl
theorem swS (pe : Expr) {a b : Expr} {p : Pos} (l : Nat) (env : PySem.Env) : swapsWith pe (some (.Subscript a b p)) l env = pure false := by
  cases pe <;> rfl
theorem SOk.tok (ok : SOk P w K mg base k N sc X) : TOk K N sc X where
  K_ := ok.K_
  N_ := ok.N_
  nd := ok.nd
  calm := ok.calm
  loc := fun x h => ⟨by rw [ok.sc_]; exact locOf h, .inl (ok.fn x)⟩
theorem ss_set {i : Nat} {e : E} {x : Str} {p1 p2 : Pos} {pe : Expr} (hi : N[i]? = some x) (hl : locB sc x = true) (hc : isLc pe = false) (he : SV P w K mg base k N sc (den G C e) pe) : SS P w K mg base k N sc (exS G C (.set i e)) (.Assign [.Name x p1] pe p2) := fun X ok => by
  obtain ⟨te, h1, q1⟩ := he X ok.toXOk
  refine ⟨_, ps_set (by rw [ok.N_]; exact ok.nd) (by rw [ok.N_]; exact hi) (by rw [ok.sc_]; exact locOf hl) h1 (noLc hc _ _ _) (.inl (ok.fn x)), fun H0 F0 ρ σ τ H fl D hI nv e q => ?_⟩
  simp only [exS] at e
  obtain ⟨r0, e1, e⟩ := obind e
  obtain ⟨r, e2, e⟩ := obind e
  obtain ⟨ρ', e3, rfl⟩ := omap e
  refine q1 _ _ _ _ _ _ r0 _ hI (fun _ => nv) e1 fun v H1 hI1 l1 => ?_
  obtain ⟨n, h2⟩ := hI1.val e2 l1
  exact q _ _ (h2.bindN n e3)
theorem ss_setc {i : Nat} {elt : E} {tg : Tg} {it : E} {ifs : List E} {own : List (Str × Nat)} {x : Str} {p1 p2 pos : Pos} {pelt ptg pit : Expr} {pifs : List Expr} {scope : Scope} (hx : N[i]? = some x) (hl : locB sc x = true)
    (hi : SI P w K mg base k N sc (den G C it) ptg pit) (hb : blkC N sc scope own = true) (hg : mG N scope tg ptg = true) (ht : tgIn (own.map (·.2)) tg = true)
    (hs : STs' P w K mg base k N (relS scope sc) (denL G C ifs) pifs) (he : SV P w K mg base k N (relS scope sc) (den G C elt) pelt) (hf : ∀ env x, foldedSetIterable pit env x = pure x) :
    SS P w K mg base k N sc (exS G C (.setc i elt tg it ifs (own.map (·.2)))) (.Assign [.Name x p1] (.ListComp pelt [⟨ptg, pit, pifs, 0⟩] scope pos) p2) := fun X ok => by
  obtain ⟨wi, tt, te, w1, w2, w3, w4, q1⟩ := lc_all hi hg ht hs he X ok.toXOk
  have hN : X.N.Nodup := by rw [ok.N_]; exact ok.nd
  have hb' := blkOk_by (N := X.N) (sc := X.env.scope) (by rw [ok.N_, ok.sc_]; exact hb)
  have fin : ∀ H0 F0 ρ σ τ H fl D, I K H0 F0 ρ σ τ H → NoV τ → exS G C (.setc i elt tg it ifs (own.map (·.2))) ρ = some fl → Post K H0 F0 τ D fl → tAsg (tLc wi (gT K tg) tt te (own.map (·.2))) (gName i) D σ H := fun H0 F0 ρ σ τ H fl D hI nv e q => by
    simp only [exS] at e
    obtain ⟨r, e1, e⟩ := obind e
    obtain ⟨ρ', e3, rfl⟩ := omap e
    exact q1 _ _ _ _ _ _ r _ hI nv e1 fun v H1 hI1 n1 => q _ _ (hI1.bindN n1 e3)
  have sw : swapsWith (.ListComp pelt [⟨ptg, pit, pifs, 0⟩] scope pos) (some (.Name x p1)) p2.line X.env = pure (X.env.blockKind == .function && X.env.kindOf x == some .local && p1.line == pos.line && !(scope.names.any fun (n, k) => n == x && (k == .local || k == .cell))) := rfl
  cases hsw : (X.env.blockKind == .function && X.env.kindOf x == some .local && p1.line == pos.line && !(scope.names.any fun (n, k) => n == x && (k == .local || k == .cell))) with
  | true =>
    rw [hsw] at sw
    have hloc : X.env.scope.names.lookup x = some .local := by
      simp only [Bool.and_eq_true] at hsw
      have z := hsw.1.1.2
      exact eq_of_beq z
    exact ⟨_, ps_setLc ok.calm hN (by rw [ok.N_]; exact hx) hloc sw w1 hb' w2 w3 w4 (hf X.env), fin⟩
  | false =>
    rw [hsw] at sw
    exact ⟨_, ps_set hN (by rw [ok.N_]; exact hx) (by rw [ok.sc_]; exact locOf hl) (pe_lc ok.calm hN w1 hb' w2 w3 w4 (hf X.env)) sw (.inl (ok.fn x)), fin⟩
theorem swSt {pe : Expr} (h : swNone pe = true) {ts : List Expr} {kk : Nat} {p : Pos} {env : PySem.Env} : swappedStores [.Tuple ts kk p] pe env = pure none := by
  cases pe with
  | Tuple vs k2 p2 =>
    have h : vs.all (foldedForSure 8) = true := h
    unfold swappedStores
    simp only [h, if_true]
    split
    · rfl
    split
    · rfl
    split
    · rfl
    rfl
  | _ => rfl
theorem swPar {x y : Str} {px py pt pt2 : Pos} {kt k2 : Nat} {pa pb : Expr} {env : PySem.Env} (hk : env.scope.kind = .function) (hx : env.scope.names.lookup x = some .local) (hy : env.scope.names.lookup y = some .local) (hxy : x ≠ y)
    (hln : (py.line == px.line) = true) (s1 : isStar pa = false) (s2 : isStar pb = false) (f1 : ([pa, pb].all (foldedForSure 8)) = false) (f2 : ([pa, pb].all (constantsAlone 8)) = false) :
    swappedStores [.Tuple [.Name x px, .Name y py] kt pt] (.Tuple [pa, pb] k2 pt2) env = pure (some [x, y]) := by
  have kx : env.kindOf x = some .local := hx
  have ky : env.kindOf y = some .local := hy
  have hb : env.blockKind = .function := by unfold Env.blockKind; rw [hk]; rfl
  have st : ∀ f : Expr → Bool, (∀ e, isStar e = false → f e = false) → [pa, pb].any f = false := fun f h => by
    simp [h pa s1, h pb s2]
  have fm : ∀ f : Expr → Option Str, f (.Name x px) = some x → f (.Name y py) = some y → [Expr.Name x px, Expr.Name y py].filterMap f = [x, y] := fun f h1 h2 => by
    rw [List.filterMap_cons_some h1, List.filterMap_cons_some h2]; rfl
  have e : [x, y].eraseDups = [x, y] := by
    have h : (y == x) = false := by simpa using fun e : y = x => hxy e.symm
    simp [List.eraseDups_cons, h]
  have hln : py.line = px.line := by simpa using hln
  unfold swappedStores
  simp only [f1, f2, hb]
  rw [st, fm]
  · simp [e]
  · simp [kx, Expr.pos]
  · simp [ky, Expr.pos, hln]
  · intro e he
    cases e <;> first | rfl | cases he
theorem ss_asg {tg : Tg} {e : E} {p2 : Pos} {ptg pe : Expr} (ht : tg.isTp = true) (hg : mG N sc tg ptg = true) (hc : swNone pe = true) (he : SV P w K mg base k N sc (den G C e) pe) : SS P w K mg base k N sc (exS G C (.asg tg e)) (.Assign [ptg] pe p2) := fun X ok => by
  obtain ⟨te, h1, q1⟩ := he X ok.toXOk
  have pg := pg_ok ok.tok hg
  obtain ⟨es, kk, p, rfl⟩ := isTp_of ht hg
  refine ⟨_, ps_asg h1 pg (swT (es := es) (kk := kk) (p := p) pe p2.line X.env) (swSt hc) rfl, fun H0 F0 ρ σ τ H fl D hI nv e q => ?_⟩
  simp only [exS] at e
  obtain ⟨r0, e1, e⟩ := obind e
  obtain ⟨r, e2, e⟩ := obind e
  obtain ⟨ρ', e3, rfl⟩ := omap e
  refine q1 _ _ _ _ _ _ r0 _ hI (fun _ => nv) e1 fun v H1 hI1 l1 => ?_
  obtain ⟨n, h2⟩ := hI1.val e2 l1
  exact gT_ok h2 n e3 fun σ' h3 _ => q _ _ h3
theorem ss_par {i j : Nat} {a b : E} {x y : Str} {px py pt pt2 p2 : Pos} {kt k2 : Nat} {pa pb : Expr} (hi : N[i]? = some x) (hj : N[j]? = some y) (hij : i ≠ j) (hx : sc.names.lookup x = some .local) (hy : sc.names.lookup y = some .local)
    (hln : (py.line == px.line) = true) (s1 : isStar pa = false) (s2 : isStar pb = false) (f1 : ([pa, pb].all (foldedForSure 8)) = false) (f2 : ([pa, pb].all (constantsAlone 8)) = false)
    (ha : SV P w K mg base k N sc (den G C a) pa) (pla : Plain pa) (hb : SV P w K mg base k N sc (den G C b) pb) (plb : Plain pb) : SS P w K mg base k N sc (exS G C (.par i j a b)) (.Assign [.Tuple [.Name x px, .Name y py] kt pt] (.Tuple [pa, pb] k2 pt2) p2) := fun X ok => by
  obtain ⟨ta, h1, q1⟩ := ha X ok.toXOk
  obtain ⟨tb, h2, q2⟩ := hb X ok.toXOk
  have e1 : starEach [pa, pb] X.env = (false, eval pa X.env) :: starEach [pb] X.env := pla.star _ _
  have e2 : starEach [pb] X.env = [(false, eval pb X.env)] := plb.star _ _
  have hN : X.N.Nodup := by rw [ok.N_]; exact ok.nd
  have hxy : x ≠ y := fun e => hij ((List.getElem?_inj (List.getElem?_eq_some_iff.mp hi).1 ok.nd).mp (by rw [hi, hj, e]))
  refine ⟨_, ps_par ok.calm hN (by rw [ok.N_]; exact hi) (by rw [ok.N_]; exact hj) hij (by rw [ok.sc_]; exact hx) (by rw [ok.sc_]; exact hy) (pa_cons h1 (pa_cons h2 pa_nil e2) e1) ?_ rfl, fun H0 F0 ρ σ τ H fl D hI nv e q => ?_⟩
  · exact swPar (by rw [ok.sc_]; exact ok.kind) (by rw [ok.sc_]; exact hx) (by rw [ok.sc_]; exact hy) hxy hln s1 s2 f1 f2
  · simp only [exS] at e
    obtain ⟨a0, e1, e⟩ := obind e
    obtain ⟨ra, e2, e⟩ := obind e
    obtain ⟨b0, e3, e⟩ := obind e
    obtain ⟨rb, e4, e⟩ := obind e
    obtain ⟨ρ1, e5, e⟩ := obind e
    obtain ⟨ρ2, e6, rfl⟩ := omap e
    refine q1 _ _ _ _ _ _ a0 _ hI (fun _ => nv) e1 fun v H1 hI1 l1 => ?_
    obtain ⟨n1, h2⟩ := hI1.val e2 l1
    refine q2 _ _ _ _ _ _ b0 _ h2 (fun _ => nv.cons n1) e3 fun v2 H2 hI2 l2 => ?_
    obtain ⟨n2, h3⟩ := hI2.val e4 l2
    exact ⟨v, v2, rfl, q _ _ ((h3.swap.bindN n1 e5).bindN n2 e6)⟩
def rAug : BO → R2
  | .add => fun x y H Q => (rI0 fun i j => .int (i + j)) x y H Q ∨ rStr x y H Q
  | .sub => rI0 fun i j => .int (i - j)
  | .mul => rI CMul fun i j => .int (i * j)
  | .fdiv => rI CDivW fun i j => .int (i / j)
  | .mod => rI (fun _ j => 0 < j) fun i j => .int (i % j)
  | .pow => fun _ _ _ _ => False
theorem opAug (op : BO) : PIp X op.op (rAug op) := by
  intro pins s σ H x y v u Q I r1 r2 h
  cases op with
  | add =>
    rcases h with h | h
    · exact augR iop_add I r1 r2 h
    · exact augR iop_add_str I r1 r2 h
  | sub => exact augR iop_sub I r1 r2 h
  | mul => exact augR iop_mul I r1 r2 h
  | fdiv => exact augR iop_fdivW I r1 r2 h
  | mod => exact augR iop_mod I r1 r2 h
  | pow => exact h.elim
theorem aug_nl {op : BO} (h : augV op t u = some y) : t.nl = true ∧ y.nl = true := by
  unfold augV at h
  split at h <;> first | (cases h; exact ⟨rfl, rfl⟩) | (split at h; (cases h; exact ⟨rfl, rfl⟩); cases h) | cases h
theorem aug_ok {op : BO} (h : I K H0 F0 ρ σ (g1 q u vb :: g1 o t va :: τ) H) (he : augV op t u = some y) (hq : ∀ v, I K H0 F0 ρ σ (g1 .full y v :: τ) H → Q v H) : rAug op va vb H Q := by
  have h' := h.swap
  unfold augV at he
  split at he
  · cases he; exact .inl ⟨_, _, h'.isInt, h.isInt, hq _ (h.drop.drop.int _)⟩
  · split at he
    · rename_i hz
      cases he
      obtain ⟨rfl, a1⟩ := h'.isStr
      obtain ⟨rfl, a2⟩ := h.isStr
      refine .inr ⟨_, _, rfl, rfl, by simpa [Str.length] using hz, ?_⟩
      rw [strApp]
      exact hq _ (h.drop.drop.str (ascii_append a1 a2 hz))
    · cases he
  · cases he; exact ⟨_, _, h'.isInt, h.isInt, hq _ (h.drop.drop.int _)⟩
  · split at he
    · rename_i hz
      cases he; exact ⟨_, _, h'.isInt, h.isInt, hz.elim (fun z => .inl (by omega)) (fun z => .inr (by omega)), hq _ (h.drop.drop.int _)⟩
    · cases he
  · split at he
    · rename_i hz
      cases he; exact ⟨_, _, h'.isInt, h.isInt, hz, hq _ (h.drop.drop.int _)⟩
    · cases he
  · split at he
    · rename_i hz
      cases he; exact ⟨_, _, h'.isInt, h.isInt, hz, hq _ (h.drop.drop.int _)⟩
    · cases he
  · cases he
theorem ss_aug {i : Nat} {op : BO} {e : E} {x : Str} {p1 p2 : Pos} {pe : Expr} (hi : N[i]? = some x) (hl : locB sc x = true) (he : SV P w K mg base k N sc (den G C e) pe) : SS P w K mg base k N sc (exS G C (.aug i op e)) (.AugAssign (.Name x p1) op.op pe p2) := fun X ok => by
  obtain ⟨te, h1, q1⟩ := he X ok.toXOk
  refine ⟨_, ps_aug (by rw [ok.N_]; exact ok.nd) (by rw [ok.N_]; exact hi) (by rw [ok.sc_]; exact locOf hl) h1 (opAug op) (.inl (ok.fn x)), fun H0 F0 ρ σ τ H fl D hI nv e q => ?_⟩
  simp only [exS] at e
  split at e
  · rename_i t o et
    obtain ⟨r, e1, e⟩ := obind e
    obtain ⟨t', e2, e⟩ := obind e
    obtain ⟨ρ', e3, rfl⟩ := omap e
    obtain ⟨v, ev, _, _, _, hn⟩ := hI.look et
    refine ⟨v, ev, ?_⟩
    refine q1 _ _ _ _ _ _ r _ (hn (aug_nl e2).1) (fun _ => nv.cons rfl) e1 fun v2 H1 hI1 l1 => ?_
    exact aug_ok hI1 e2 fun z h2 => q _ _ (h2.bindN rfl e3)
  · cases e
theorem set_set {α : Type} {l : List α} {i : Nat} {a b : α} : (l.set i a).set i b = l.set i b := List.set_set _
theorem modO_min {ys : List T} {o1 o2 : Own} (h : modO false (.lst ys) o1 q = some o2) : (o1 = .full ∨ o1 = .shal) ∧ o2 = minO o1 q := by
  cases o1 <;> cases q <;> simp [modO, Own.isFull] at h <;> subst h <;> simp [minO, Own.isFull]
theorem RpL.set {F : Hp} {o : Own} {z : T} {zv : V} (ho : o = .cold) : ∀ {ts : List T} {vs : List V} (j : Nat), RpL K F H o ts vs [] → Rp K F H o z zv [] → RpL K F H o (ts.set j z) (vs.set j zv) []
  | [], [], _, h, _ => by simpa using h
  | [], _ :: _, _, h, _ => by simp [RpL] at h
  | _ :: _, [], _, h, _ => by simp [RpL] at h
  | t :: ts, v :: vs, 0, h, hz => by
    simp only [RpL] at h
    obtain ⟨f1, f2, h1, h2, e⟩ := h
    have e2 : f2 = [] := (List.append_eq_nil_iff.mp e.symm).2
    subst e2
    show RpL K F H o (z :: ts) (zv :: vs) []
    simp only [RpL]
    exact ⟨[], [], hz, h2, rfl⟩
  | t :: ts, v :: vs, j + 1, h, hz => by
    simp only [RpL] at h
    obtain ⟨f1, f2, h1, h2, e⟩ := h
    have e1 : f1 = [] := (List.append_eq_nil_iff.mp e.symm).1
    have e2 : f2 = [] := (List.append_eq_nil_iff.mp e.symm).2
    subst e1 e2
    show RpL K F H o (t :: ts.set j z) (v :: vs.set j zv) []
    simp only [RpL]
    exact ⟨[], [], h1, RpL.set ho j h2 hz, rfl⟩
/-- one of full items is exchanged: what it owned is let go -/
theorem RpL.setF {F : Hp} {z : T} {zv : V} : ∀ {ts : List T} {vs : List V} {fp fz : List Addr} (j : Nat), RpL K F H .full ts vs fp → Rp K F H .full z zv fz → j < ts.length → ∃ fp', RpL K F H .full (ts.set j z) (vs.set j zv) fp' ∧ (∃ l r m, fp = l ++ (m ++ r) ∧ fp' = l ++ (fz ++ r))
  | [], _, _, _, _, _, _, h => by simp at h
  | _ :: _, [], _, _, _, h, _, _ => by simp [RpL] at h
  | t :: ts, v :: vs, fp, fz, 0, h, hz, _ => by
    simp only [RpL] at h
    obtain ⟨f1, f2, h1, h2, rfl⟩ := h
    refine ⟨fz ++ f2, ?_, [], f2, f1, rfl, rfl⟩
    show RpL K F H .full (z :: ts) (zv :: vs) _
    simp only [RpL]
    exact ⟨fz, f2, hz, h2, rfl⟩
  | t :: ts, v :: vs, fp, fz, j + 1, h, hz, hj => by
    simp only [RpL] at h
    obtain ⟨f1, f2, h1, h2, rfl⟩ := h
    obtain ⟨fp', r, l, rr, m, e1, e2⟩ := RpL.setF j h2 hz (by simpa using hj)
    refine ⟨f1 ++ fp', ?_, f1 ++ l, rr, m, by rw [e1, List.append_assoc], by rw [e2, List.append_assoc]⟩
    show RpL K F H .full (t :: ts.set j z) (v :: vs.set j zv) _
    simp only [RpL]
    exact ⟨f1, fp', h1, r, rfl⟩
theorem I.write3 {g g' : Gp} {D : Addr} {ws ws' : List V} {vs : List V} {ts : List T} (h : I K H0 F0 ρ σ (g :: g' :: τ) H) (nv : NoV τ) (hD : H D = some (.lst ws))
    (q : ∀ F f1 f2, Same F H → RpL K F H g.o g.ts g.vs f1 → RpL K F H g'.o g'.ts g'.vs f2 → (∀ a ∈ f1 ++ f2, F a = none) → (f1 ++ f2).Nodup → D ∈ f2 ∧ ∃ fp' m, RpL K F (upd H D (.lst ws')) o ts vs fp' ∧ (fp' ++ m).Perm (f1 ++ f2)) : I K H0 F0 ρ σ (⟨o, ts, vs⟩ :: τ) (upd H D (.lst ws')) := by
  obtain ⟨F, fρ, fτ, c⟩ := h
  obtain ⟨f1, f23, h1, ⟨f2, f3, h2, h3, rfl⟩, rfl⟩ := c.tmp
  have nd := c.nd
  rw [List.nodup_append] at nd
  obtain ⟨n1, n2, n3⟩ := nd
  rw [← List.append_assoc] at n2
  rw [List.nodup_append] at n2
  obtain ⟨n4, n5, n6⟩ := n2
  obtain ⟨dm, fp', mm, r, p⟩ := q F f1 f2 c.fh h1 h2 (fun a m => (c.ow a (by simp only [List.mem_append] at m ⊢; grind)).2) n4
  have FD : F D = none := (c.ow D (by simp [dm])).2
  have HD0 : H0 D = none := (c.ow D (by simp [dm])).1
  have dρ : D ∉ fρ := fun m => n3 D m D (by simp [dm]) rfl
  have d3 : D ∉ f3 := fun m => n6 D (by simp [dm]) D m rfl
  refine ⟨F, fρ, fp' ++ f3, fun a x e => ?_, fun a x e => ?_, c.f0, fun a m => ?_, ?_, ?_, fp', f3, r, ?_, rfl⟩
  · have : a ≠ D := fun z => by rw [z, FD] at e; cases e
    rw [upd_ne this]; exact c.fh a x e
  · have : a ≠ D := fun z => by rw [z, HD0] at e; cases e
    rw [upd_ne this]; exact c.h0 a x e
  · refine c.ow a ?_
    simp only [List.mem_append] at m ⊢
    rcases m with m | m | m
    · exact .inl m
    · have := (p.mem_iff).mp (List.mem_append_left _ m)
      simp only [List.mem_append] at this
      grind
    · grind
  · have p2 : (fρ ++ (fp' ++ (mm ++ f3))).Perm (fρ ++ (f1 ++ (f2 ++ f3))) := by
      refine List.Perm.append_left _ ?_
      rw [← List.append_assoc (as := f1), ← List.append_assoc (as := fp')]
      exact p.append_right _
    refine (p2.nodup_iff.mpr c.nd).sublist ?_
    exact List.Sublist.append (List.Sublist.refl _) (List.Sublist.append (List.Sublist.refl _) (List.sublist_append_right _ _))
  · exact c.env.keep (Keep.write hD dρ fun a m => (c.ow a (by simp [m])).2)
  · exact h3.keep (Keep.write hD d3 fun a m => (c.ow a (by simp [m])).2) (fun _ g m => nv g m)
/-- an item of a list that is one's own is exchanged -/
theorem I.setI {xs : List T} {D : Addr} {vy : V} {j : Nat} (h : I K H0 F0 ρ σ (g1 q y vy :: g1 o (.lst xs) (.ref D) :: τ) H) (ho : o = .full ∨ o = .shal) (hq : q.isView = false) (nv : NoV τ) (hj : j < xs.length) :
    ∃ ws, H D = some (.lst ws) ∧ xs.length = ws.length ∧ I K H0 F0 ρ σ (g1 (minO o q) (.lst (xs.set j y)) (.ref D) :: τ) (upd H D (.lst (ws.set j vy))) := by
  obtain ⟨a, ws, e, rd, hl, _, own⟩ := h.drop.kidsL
  cases e
  have hD := own ho
  refine ⟨ws, hD, hl, ?_⟩
  have same : ∀ {ws' : List V}, Rd H D (.lst ws') → ws' = ws := fun z => by
    rcases z with z | ⟨ob, z⟩ <;> (rw [hD] at z; cases z)
    rfl
  cases hb : (o.isFull && q.isFull) with
  | true =>
    simp only [Bool.and_eq_true] at hb
    have e1 := full_of hb.1
    have e2 := full_of hb.2
    subst e1 e2
    refine h.write3 nv hD fun F f1 f2 s r1 r2 fn nd => ?_
    have r1 := RpL.one.mp r1
    have r2 := RpL.one.mp r2
    simp only [Rp] at r2
    obtain ⟨a, ws', hd, fk, e, ⟨h1, h2, e3⟩, rr2, e4⟩ := r2
    cases e
    subst e3 e4
    have := same (.inl h1)
    subst this
    have nd' := nd
    rw [List.nodup_append] at nd
    obtain ⟨n1, n2, n3⟩ := nd
    have d1 : D ∉ f1 := fun m => n3 D m D (by simp) rfl
    have dk : D ∉ fk := by
      simp only [List.singleton_append, List.nodup_cons] at n2
      exact n2.1
    have k1 : RpL K F (upd H D (.lst (ws'.set j vy))) .full xs ws' fk := RpL.keep (Keep.write hD dk fun a m => fn a (by simp [m])) rr2
    have k2 : Rp K F (upd H D (.lst (ws'.set j vy))) .full y vy f1 := Rp.keep (Keep.write hD d1 fun a m => fn a (by simp [m])) r1
    obtain ⟨fp', k3, l, r, m, p1, p2⟩ := RpL.setF j k1 k2 hj
    refine ⟨by simp, [D] ++ fp', m, RpL.one.mpr ?_, ?_⟩
    · simp only [Rp]
      exact ⟨D, ws'.set j vy, [D], fp', rfl, ⟨upd_same, h2, rfl⟩, k3, rfl⟩
    · subst p1 p2
      refine List.perm_iff_count.mpr fun z => ?_
      simp only [List.count_append]
      omega
  | false =>
    rw [minO_shal hb]
    have h1 := ((h.frz hq).swap.toShal ho).swap
    refine h1.write3 nv hD fun F f1 f2 s r1 r2 fn nd => ?_
    have e1 := RpL.none_of (.inl rfl) r1
    subst e1
    have r1 := RpL.one.mp r1
    have r2 := RpL.one.mp r2
    simp only [Rp] at r2
    obtain ⟨a, ws', hd, fk, e, ⟨h1, h2, e3⟩, rr2, e4⟩ := r2
    cases e
    subst e3 e4
    have := same (.inl h1)
    subst this
    have ek := RpL.none_of (.inl rfl) rr2
    subst ek
    refine ⟨by simp, [D], [], RpL.one.mpr ?_, by simp⟩
    simp only [Rp]
    have k1 : RpL K F (upd H D (.lst (ws'.set j vy))) .cold xs ws' [] := RpL.keep (Keep.write hD (by simp) fun a m => by simp at m) rr2
    have k2 : Rp K F (upd H D (.lst (ws'.set j vy))) .cold y vy [] := Rp.keep (Keep.write hD (by simp) fun a m => by simp at m) r1
    exact ⟨D, ws'.set j vy, [D], [], rfl, ⟨upd_same, h2, rfl⟩, RpL.set rfl j k1 k2, rfl⟩
theorem ss_seti {i : Nat} {e kx : E} {x : Str} {p1 p2 p3 : Pos} {pk pe : Expr} (hi : nmB N sc i x = true) (hsl : isSl pk = false) (hk : SV P w K mg base k N sc (den G C kx) pk) (he : SV P w K mg base k N sc (den G C e) pe) :
    SS P w K mg base k N sc (exS G C (.seti i [] kx e)) (.Assign [.Subscript (.Name x p1) pk p2] pe p3) := fun X ok => by
  obtain ⟨te, h1, q1⟩ := he X ok.toXOk
  obtain ⟨tk, h2, q2⟩ := hk X ok.toXOk
  obtain ⟨a1, a2, a3, a4⟩ := nmOf hi
  have pv : PE X (.Name x p1) (tVar i) := pe_var (by rw [ok.N_]; exact a1) (by rw [ok.sc_]; exact a2) a3 a4
  refine ⟨_, ps_asg h1 (pg_sub pv h2 set_list (fun v => by cases pk <;> first | rfl | cases hsl)) (swS (a := .Name x p1) (b := pk) (p := p2) pe p3.line X.env) rfl rfl, fun H0 F0 ρ σ τ H fl D hI nv e q => ?_⟩
  simp only [exS] at e
  obtain ⟨r0, e1, e⟩ := obind e
  obtain ⟨r, e2, e⟩ := obind e
  split at e
  · rename_i t0 et
    simp only [denL, evIs, Option.bind_some] at e
    obtain ⟨rk, e3, e⟩ := obind e
    refine q1 _ _ _ _ _ _ r0 _ hI (fun _ => nv) e1 fun y H1 hI1 l1 => ?_
    obtain ⟨n, h2⟩ := hI1.val e2 l1
    obtain ⟨v, ev, _⟩ := h2.look (t := t0.1) (o := t0.2) et
    obtain ⟨tk, ok', ρk⟩ := rk
    cases tk with
    | int kk =>
      obtain ⟨ρ', e4, rfl⟩ := omap e
      unfold modS at e4
      split at e4
      · rename_i t1 o1 e5
        have e5 : ρk[i]? = some (some (t1, o1)) := e5
        obtain ⟨t2, e6, e4⟩ := obind e4
        obtain ⟨o2, e7, rfl⟩ := omap e4
        simp only [modAt] at e6
        cases t1 with
        | lst ys =>
          simp only [setV] at e6
          obtain ⟨j, e8, rfl⟩ := omap e6
          obtain ⟨ho, rfl⟩ := modO_min e7
          refine ⟨v, ev, ?_⟩
          refine q2 _ _ _ _ _ _ _ _ h2 (fun _ => nv.cons n) e3 fun kv H2 hI2 l2 => ?_
          have hkv := hI2.isInt
          subst hkv
          have h3 := hI2.drop
          obtain ⟨v', ev', nv', h4⟩ := h3.mov e5
          rw [ev] at ev'; cases ev'
          obtain ⟨a, ws, rfl, rd, hlen, _, own⟩ := h4.kidsL
          have hj := (ixN_seq e8)
          obtain ⟨ws', hD, hl', h5⟩ := I.setI (j := j) h4.swap ho n nv (by omega)
          refine ⟨a, ws', kk, j, rfl, rfl, hD, by rw [← hl']; exact e8, ?_⟩
          have hlt : i < (ρk.set i none).length := by simpa using (List.getElem?_eq_some_iff.mp e5).1
          have h6 := h5.put (i := i) (by unfold minO; split <;> rfl) hlt
          rw [set_set, set_self ev] at h6
          exact q _ _ h6
        | _ => simp [setV] at e6
      · cases e4
    | _ => cases e
  · cases e
theorem ss_app {i : Nat} {e : E} {x m : Str} {p1 apos cpos p2 : Pos} {p : Expr} (hi : nmB N sc i x = true) (hm : m = "append") (hl : (apos.endLine == cpos.line) = true) (he : SV P w K mg base k N sc (den G C e) p) (pl : Plain p) :
    SS P w K mg base k N sc (exS G C (.app i [] e)) (.Expr (.Call (.Attribute (.Name x p1) m apos) [p] [] cpos) p2) := fun X ok => by
  subst hm
  obtain ⟨te, h1, q1⟩ := he X ok.toXOk
  obtain ⟨a1, a2, a3, a4⟩ := nmOf hi
  have hs : starEach [p] X.env = [(false, eval p X.env)] := pl.star _ _
  have pv : PE X (.Name x p1) (tVar i) := pe_var (by rw [ok.N_]; exact a1) (by rw [ok.sc_]; exact a2) a3 a4
  refine ⟨_, ps_expr (pe_bm PySem.F.plainAttrs_list PySem.F.slot_list_append PySem.F.type_list_append mt_append pv (pa_cons h1 pa_nil hs) rfl (few_ok pl) hl hs rfl) rfl, fun H0 F0 ρ σ τ H fl D hI nv e q => ?_⟩
  simp only [exS] at e
  split at e
  · rename_i xs o0 et
    simp only [denL, evIs, Option.bind_some] at e
    obtain ⟨r0, e1, e⟩ := obind e
    obtain ⟨r, e2, e⟩ := obind e
    obtain ⟨ρ', e3, rfl⟩ := omap e
    obtain ⟨v, ev, _, hvw, _, _⟩ := hI.look et
    refine ⟨v, ev, ?_, ?_⟩
    · obtain ⟨a, ws, rfl, rd, _⟩ := (hvw 0).kidsL
      exact .inl ⟨rfl, ws, .inl rd⟩
    · refine q1 _ _ _ _ _ _ r0 _ hI (fun _ => nv) e1 fun y H1 hI1 l1 => ?_
      obtain ⟨n, h2⟩ := hI1.val e2 l1
      unfold modS at e3
      split at e3
      · rename_i t1 o1 e4
        obtain ⟨t2, e5, e3⟩ := obind e3
        obtain ⟨o2, e6, rfl⟩ := omap e3
        obtain ⟨v', ev', nv', h3⟩ := h2.mov e4
        rw [ev] at ev'; cases ev'
        simp only [modAt] at e5
        cases t1 with
        | lst ys =>
          simp only [appV] at e5
          split at e5
          · rename_i hz
            cases e5
            have ho := modO_min e6
            obtain ⟨ho, rfl⟩ := ho
            have h3' := h3.swap
            obtain ⟨a, ws, rfl, rd, hlen, _, own⟩ := h3.kidsL
            obtain ⟨ws', hD, hl', h4⟩ := I.app h3' ho n nv
            refine ⟨a, ws', y, rfl, rfl, hD, by omega, ?_⟩
            have hlt : i < (r.ρ.set i none).length := by simpa using (List.getElem?_eq_some_iff.mp e4).1
            have h5 := h4.put (i := i) (by unfold minO; split <;> rfl) hlt
            rw [set_set, set_self ev] at h5
            exact q _ _ h5
          · cases e5
        | _ => simp [appV] at e5
      · cases e3
  · cases e
theorem ss_exp {e : E} {pe : Expr} {p : Pos} (hc : isLc pe = false) (he : SV P w K mg base k N sc (den G C e) pe) : SS P w K mg base k N sc (exS G C (.exp e)) (.Expr pe p) := fun X ok => by
  obtain ⟨te, h1, q1⟩ := he X ok.toXOk
  have sw : swapsWith pe none p.line X.env = pure false := by cases pe <;> first | rfl | cases hc
  refine ⟨_, ps_expr h1 sw, fun H0 F0 ρ σ τ H fl D hI nv e q => ?_⟩
  simp only [exS] at e
  obtain ⟨r, e1, rfl⟩ := omap e
  exact q1 _ _ _ _ _ _ r _ hI (fun _ => nv) e1 fun v H1 hI1 l1 => q _ _ hI1.drop
theorem ss_ret {e : E} {pe : Expr} {p : Pos} (he : SV P w K mg base k N sc (den G C e) pe) : SS P w K mg base k N sc (exS G C (.ret e)) (.Return (some pe) p) := fun X ok => by
  obtain ⟨te, h1, q1⟩ := he X ok.toXOk
  refine ⟨_, ps_ret h1, fun H0 F0 ρ σ τ H fl D hI nv e q => ?_⟩
  simp only [exS] at e
  obtain ⟨r0, e1, e⟩ := obind e
  obtain ⟨r, e2, rfl⟩ := omap e
  refine q1 _ _ _ _ _ _ r0 _ hI (fun _ => nv) e1 fun v H1 hI1 l1 => ?_
  obtain ⟨n, h2⟩ := hI1.val e2 l1
  exact q _ _ _ _ h2 n
theorem ss_retN {p : Pos} : SS P w K mg base k N sc (exS G C .retN) (.Return none p) := fun X ok =>
  ⟨_, ps_retN, fun H0 F0 ρ σ τ H fl D hI nv e q => by
    simp only [exS, Option.some.injEq] at e
    subst e
    exact q _ _ _ _ hI.non rfl⟩
theorem ss_ite {c : E} {a b : List S} {pc : Expr} {pa pb : List Stmt} {p : Pos} (hc : ST P w K mg base k N sc (den G C c) pc) (ha : SSs P w K mg base k N sc (exSs G C a) pa) (hb : SSs P w K mg base k N sc (exSs G C b) pb) :
    SS P w K mg base k N sc (exS G C (.ite c a b)) (.If pc pa pb p) := fun X ok => by
  obtain ⟨tc, h1, q1⟩ := hc X ok.toXOk
  obtain ⟨t2, h2, q2⟩ := ha X ok
  obtain ⟨t3, h3, q3⟩ := hb X ok
  refine ⟨_, ps_if h1 h2 h3, fun H0 F0 ρ σ τ H fl D hI nv e q => ?_⟩
  simp only [exS] at e
  obtain ⟨kk, e1, e⟩ := obind e
  refine q1 _ _ _ _ _ _ kk _ hI (fun _ => nv) e1 fun H1 hI1 => ?_
  cases hk : kk.1 with
  | true =>
    rw [hk] at e
    simp only [if_true] at e ⊢
    exact q2 _ _ _ _ _ _ _ _ hI1 nv e q
  | false =>
    rw [hk] at e
    simp only [Bool.false_eq_true, if_false] at e ⊢
    exact q3 _ _ _ _ _ _ _ _ hI1 nv e q
theorem ss_whl {c : E} {b : List S} {pc : Expr} {pb : List Stmt} {p : Pos} (hc : ST P w K mg base k N sc (den G C c) pc) (hb : SSs P w K mg base k N sc (exSs G C b) pb) :
    SS P w K mg base k N sc (exS G C (.whl c b)) (.While pc pb [] p) := fun X ok => by
  obtain ⟨tc, h1, q1⟩ := hc X ok.toXOk
  obtain ⟨t2, h2, q2⟩ := hb X ok
  refine ⟨_, ps_while ok.own h1 h2, fun H0 F0 ρ σ τ H fl D hI nv e q => ?_⟩
  simp only [exS] at e
  refine ⟨fun m σ H => ∃ ρ, whlLoop (den G C c).t (exSs G C b) m ρ = some fl ∧ I K H0 F0 ρ σ τ H, ⟨_, ρ, e, hI⟩, ?_⟩
  rintro m σ1 H1 ⟨ρ1, e, hI⟩
  cases m with
  | zero => simp [whlLoop] at e
  | succ m =>
    simp only [whlLoop] at e
    obtain ⟨kk, e1, e⟩ := obind e
    refine q1 _ _ _ _ _ _ kk _ hI (fun _ => nv) e1 fun H2 hI1 => ?_
    cases hk : kk.1 with
    | false =>
      rw [hk] at e
      simp only [Bool.false_eq_true, if_false, Option.some.injEq] at e ⊢
      subst e
      exact q _ _ hI1
    | true =>
      rw [hk] at e
      simp only [if_true] at e ⊢
      obtain ⟨f, e2, e⟩ := obind e
      refine ⟨fun σ' H' => ∃ ρ, whlLoop (den G C c).t (exSs G C b) m ρ = some fl ∧ I K H0 F0 ρ σ' τ H', fun σ' H' h => ⟨m, by omega, h⟩, ?_⟩
      refine q2 _ _ _ _ _ _ f _ hI1 nv e2 ?_
      cases f with
      | nx ρ' => exact fun σ' H' h => ⟨ρ', e, h⟩
      | ct ρ' => exact fun σ' H' h => ⟨ρ', e, h⟩
      | bk ρ' =>
        simp only [Fl.turn, Option.some.injEq] at e
        subst e
        exact fun σ' H' h => q _ _ h
      | rt t o =>
        simp only [Fl.turn, Option.some.injEq] at e
        subst e
        exact fun ρ' σ' v H' h n => q _ _ _ _ h n
theorem ss_for {tg : Tg} {it : E} {b : List S} {ptg pit : Expr} {pb : List Stmt} {p : Pos} (hg : mG N sc tg ptg = true) (hi : SI P w K mg base k N sc (den G C it) ptg pit) (hf : ∀ env x, foldedSetIterable pit env x = pure x) (hb : SSs P w K mg base k N sc (exSs G C b) pb) :
    SS P w K mg base k N sc (exS G C (.for_ tg it b)) (.For ptg pit pb [] p) := fun X ok => by
  obtain ⟨wi, h1, q1⟩ := hi X ok.toXOk
  obtain ⟨t2, h2, q2⟩ := hb X ok
  refine ⟨_, ps_for ok.own ok.calm h1 (pg_ok ok.tok hg) h2 (hf X.env), fun H0 F0 ρ σ τ H fl D hI nv e q => ?_⟩
  simp only [exS] at e
  obtain ⟨x, e1, e⟩ := obind e
  obtain ⟨xs, ρ1⟩ := x
  refine q1 _ _ _ _ _ _ _ _ hI (fun _ => nv) e1 fun J g H1 hW h1 => ?_
  refine ⟨fun i m σ H => m = xs.length - i ∧ i ≤ xs.length ∧ ∃ ρi, forLoop (fun x ρ => bindT tg x .cold ρ) (exSs G C b) (xs.drop i) ρi = some fl ∧ I K H0 F0 ρi σ (g :: τ) H, ⟨xs.length, by simp, Nat.zero_le _, ρ1, by simpa using e, h1⟩, ?_⟩
  rintro i m σ2 H2 ⟨rfl, hle, ρi, el, h3⟩
  by_cases hlt : i < xs.length
  · refine .inr ⟨hW.go i _ _ _ _ _ _ h3 hlt, _, fun σ' H' nx => ⟨xs.length - (i + 1), by omega, nx⟩, fun v H6 hy => ?_⟩
    rw [List.drop_eq_getElem_cons hlt] at el
    simp only [forLoop] at el
    obtain ⟨ρ2, e3, el⟩ := obind el
    obtain ⟨f, e4, el⟩ := obind el
    have h4 := hW.yld i xs[i] _ _ _ _ _ _ v H6 h3 (List.getElem?_eq_getElem hlt) hy
    refine gT_ok h4 rfl e3 fun σ3 h5 _ => ?_
    have nv2 : NoV (g :: τ) := nv.cons (by rw [hW.cold]; rfl)
    refine q2 _ _ _ _ _ _ f _ h5 nv2 e4 ?_
    cases f with
    | nx ρ' => exact fun σ' H' h => ⟨rfl, hlt, ρ', el, h⟩
    | ct ρ' => exact fun σ' H' h => ⟨rfl, hlt, ρ', el, h⟩
    | bk ρ' =>
      simp only [Fl.turn, Option.some.injEq] at el
      subst el
      exact fun σ' H' h => q _ _ h.drop
    | rt t o =>
      simp only [Fl.turn, Option.some.injEq] at el
      subst el
      exact fun ρ' σ' v H' h n => q _ _ _ _ h.drop2 n
  · have ei : i = xs.length := by omega
    subst ei
    rw [List.drop_length] at el
    simp only [forLoop, Option.some.injEq] at el
    subst el
    exact .inl ⟨hW.stop _ _ _ _ _ _ _ h3 (Nat.le_refl _), q _ _ h3.drop⟩
theorem ss_pass {st : Stmt} (h : ∀ X : Cx, PS X st tNext) : SS P w K mg base k N sc (exS G C .pass) st := fun X ok =>
  ⟨_, h X, fun H0 F0 ρ σ τ H fl D hI nv e q => by
    simp only [exS, Option.some.injEq] at e
    subst e
    exact q _ _ hI⟩
theorem ss_brk {p : Pos} : SS P w K mg base k N sc (exS G C .brk) (.Break p) := fun X ok =>
  ⟨_, ps_break, fun H0 F0 ρ σ τ H fl D hI nv e q => by
    simp only [exS, Option.some.injEq] at e
    subst e
    exact q _ _ hI⟩
theorem ss_cnt {p : Pos} : SS P w K mg base k N sc (exS G C .cnt) (.Continue p) := fun X ok =>
  ⟨_, ps_continue, fun H0 F0 ρ σ τ H fl D hI nv e q => by
    simp only [exS, Option.some.injEq] at e
    subst e
    exact q _ _ hI⟩
theorem sss_nil : SSs P w K mg base k N sc (exSs G C []) [] := fun X ok =>
  ⟨_, pss_nil, fun H0 F0 ρ σ τ H fl D hI nv e q => by
    simp only [exSs, Option.some.injEq] at e
    subst e
    exact q _ _ hI⟩
theorem sss_cons {s : S} {ss : List S} {st : Stmt} {sts : List Stmt} (h1 : SS P w K mg base k N sc (exS G C s) st) (h2 : SSs P w K mg base k N sc (exSs G C ss) sts) : SSs P w K mg base k N sc (exSs G C (s :: ss)) (st :: sts) := fun X ok => by
  obtain ⟨t1, p1, q1⟩ := h1 X ok
  obtain ⟨t2, p2, q2⟩ := h2 X ok
  refine ⟨_, pss_cons p1 p2, fun H0 F0 ρ σ τ H fl D hI nv e q => ?_⟩
  simp only [exSs] at e
  obtain ⟨f, e1, e⟩ := obind e
  refine q1 _ _ _ _ _ _ f _ hI nv e1 ?_
  cases f with
  | nx ρ' => exact fun σ' H' h => q2 _ _ _ _ _ _ _ _ h nv e q
  | ct ρ' => cases e; exact q
  | bk ρ' => cases e; exact q
  | rt t o => cases e; exact q
mutual
theorem okS (M : MOk K mg U G) (CO : COk P w K mg base k C) : ∀ (s : S) (sc : Scope) (st : Stmt), mS U N sc s st = true → SS P w K mg base k N sc (exS G C s) st
  | .set i e, sc, st, h => by
    unfold mS at h
    split at h
    · simp only [Bool.and_eq_true, decide_eq_true_eq, Bool.not_eq_true'] at h
      obtain ⟨⟨⟨h1, h2⟩, h3⟩, h4⟩ := h
      exact ss_set h1 h2 h3 (okE M CO e sc _ h4).v
    · cases h
  | .setc i elt tg it ifs own, sc, st, h => by
    unfold mS at h
    split at h
    · simp only [Bool.and_eq_true, decide_eq_true_eq] at h
      obtain ⟨⟨h1, h2⟩, h⟩ := h
      unfold mE at h
      split at h
      · simp only [Bool.and_eq_true, decide_eq_true_eq] at h
        obtain ⟨⟨⟨⟨⟨⟨⟨⟨g1, g2⟩, ht⟩, g3⟩, g4⟩, g5⟩, g6⟩, g7⟩, g8⟩ := h
        have i1 := okE M CO it sc _ g3
        have i2 := okEs M CO ifs _ _ g6
        have i3 := okE M CO elt _ _ g7
        have z := fun p1 p2 pos => ss_setc (G := G) (C := C) (elt := elt) (it := it) (p1 := p1) (p2 := p2) (pos := pos) h1 h2 (i1.i _ fun e => isTp_of (by rw [e] at ht; simpa using ht) g4) g1 g4 (by rw [g2]; exact g5) (i2.2.one g8) i3.v i1.pl.fsi
        simp only [g2] at z
        exact z _ _ _
      · cases h
    · cases h
  | .asg tg e, sc, st, h => by
    unfold mS at h
    split at h
    · simp only [Bool.and_eq_true] at h
      obtain ⟨⟨⟨h1, h2⟩, h3⟩, h4⟩ := h
      exact ss_asg h1 h2 h3 (okE M CO e sc _ h4).v
    · cases h
  | .par i j a b, sc, st, h => by
    unfold mS at h
    split at h
    · simp only [Bool.and_eq_true, decide_eq_true_eq, Bool.not_eq_true'] at h
      obtain ⟨⟨⟨⟨⟨⟨⟨⟨⟨⟨⟨h1, h2⟩, h3⟩, h4⟩, h5⟩, h6⟩, h7⟩, h8⟩, h9⟩, h10⟩, h11⟩, h12⟩ := h
      have i1 := okE M CO a sc _ h11
      have i2 := okE M CO b sc _ h12
      exact ss_par h1 h2 h3 h4 h5 h6 h7 h8 h9 h10 i1.v i1.pl i2.v i2.pl
    · cases h
  | .aug i op e, sc, st, h => by
    unfold mS at h
    split at h
    · simp only [Bool.and_eq_true, decide_eq_true_eq] at h
      obtain ⟨⟨⟨h1, h2⟩, h3⟩, h4⟩ := h
      subst h3
      exact ss_aug h1 h2 (okE M CO e sc _ h4).v
    · cases h
  | .app i ixs e, sc, st, h => by
    unfold mS at h
    split at h
    · simp only [Bool.and_eq_true, decide_eq_true_eq, List.isEmpty_iff] at h
      obtain ⟨⟨⟨⟨h1, h2⟩, h3⟩, h4⟩, h5⟩ := h
      subst h4
      have i1 := okE M CO e sc _ h5
      exact ss_app h1 h2 h3 i1.v i1.pl
    · cases h
  | .seti i ixs kx e, sc, st, h => by
    unfold mS at h
    split at h
    · simp only [Bool.and_eq_true, decide_eq_true_eq, List.isEmpty_iff, Bool.not_eq_true'] at h
      obtain ⟨⟨⟨⟨h1, h2⟩, h3⟩, h4⟩, h5⟩ := h
      subst h2
      exact ss_seti h1 h3 (okE M CO kx sc _ h4).v (okE M CO e sc _ h5).v
    · cases h
  | .exp e, sc, st, h => by
    unfold mS at h
    split at h
    · simp only [Bool.and_eq_true, Bool.not_eq_true'] at h
      exact ss_exp h.1 (okE M CO e sc _ h.2).v
    · cases h
  | .ret e, sc, st, h => by
    unfold mS at h
    split at h
    · exact ss_ret (okE M CO e sc _ h).v
    · cases h
  | .retN, sc, st, h => by
    unfold mS at h
    split at h
    · exact ss_retN
    · cases h
  | .ite c a b, sc, st, h => by
    unfold mS at h
    split at h
    · simp only [Bool.and_eq_true] at h
      obtain ⟨⟨h1, h2⟩, h3⟩ := h
      exact ss_ite (okE M CO c sc _ h1).t (okSs M CO a sc _ h2) (okSs M CO b sc _ h3)
    · cases h
  | .whl c b, sc, st, h => by
    unfold mS at h
    split at h
    · simp only [Bool.and_eq_true] at h
      exact ss_whl (okE M CO c sc _ h.1).t (okSs M CO b sc _ h.2)
    · cases h
  | .for_ tg it b, sc, st, h => by
    unfold mS at h
    split at h
    · simp only [Bool.and_eq_true] at h
      obtain ⟨⟨⟨h1, h2⟩, h3⟩, h4⟩ := h
      have i1 := okE M CO it sc _ h3
      exact ss_for h2 (i1.i _ fun e => isTp_of (by rw [e] at h1; simpa using h1) h2) i1.pl.fsi (okSs M CO b sc _ h4)
    · cases h
  | .pass, sc, st, h => by
    unfold mS at h
    split at h
    · exact ss_pass fun X => ps_pass
    · exact ss_pass fun X => ps_doc
    · cases h
  | .brk, sc, st, h => by
    unfold mS at h
    split at h
    · exact ss_brk
    · cases h
  | .cnt, sc, st, h => by
    unfold mS at h
    split at h
    · exact ss_cnt
    · cases h
theorem okSs (M : MOk K mg U G) (CO : COk P w K mg base k C) : ∀ (ss : List S) (sc : Scope) (sts : List Stmt), mSs U N sc ss sts = true → SSs P w K mg base k N sc (exSs G C ss) sts
  | [], sc, sts, h => by
    unfold mSs at h
    split at h
    · exact sss_nil
    · cases h
  | s :: ss, sc, sts, h => by
    unfold mSs at h
    split at h
    · simp only [Bool.and_eq_true] at h
      exact sss_cons (okS M CO s sc _ h.1) (okSs M CO ss sc _ h.2)
    · cases h
end
end
end Ev
namespace Ev
open PySem PySem.Spec PyProof.Rows L2
/-- a table of defs, run with so many calls within calls -/
def runN (G : List Nat → Option T) (F : List Nat → Option Fn) : Nat → List Nat → List T → Option (T × Own)
  | 0, _, _ => none
  | n + 1, f, ts => (F f).bind fun d => if ts.length = d.np then (exSs G (runN G F n) d.body (startE d.ns ts)).bind fun
    | .nx _ => some (.non, .full)
    | .rt t o => if o.isView then none else some (t, o)
    | _ => none
    else none
theorem runN_nv {G : List Nat → Option T} {F : List Nat → Option Fn} {n : Nat} {f : List Nat} {ts : List T} {r : T × Own} (h : runN G F n f ts = some r) : r.2.isView = false := by
  cases n with
  | zero => cases h
  | succ n =>
    simp only [runN] at h
    obtain ⟨d, _, h⟩ := obind h
    split at h
    · obtain ⟨fl, _, h⟩ := obind h
      cases fl with
      | nx ρ => cases h; rfl
      | rt t o =>
        simp only at h
        split at h
        · cases h
        · rename_i n; cases h; simpa using n
      | bk ρ => cases h
      | ct ρ => cases h
    · cases h
section
variable {P : Program} {w : World} {K : PySem.W.Frag} {mg : Str → Option Value} {base : Heap} {k : Nat} {N : List Str} {sc : Scope} {U : BF → Bool} {G : List Nat → Option T} {C : List Nat → List T → Option (T × Own)}
variable {H0 F0 H H' F : Hp} {ρ ρ' : Env} {σ : L2.St} {τ : List Gp}
theorem I.bare (h : I K H0 F0 ρ σ τ H) : I K H0 F0 [] [] τ H := by
  obtain ⟨F, fρ, fτ, c⟩ := h
  exact ⟨F, [], fτ, c.fh, c.h0, c.f0, fun a m => c.ow a (by simp at m; simp [m]), by simpa using (List.nodup_append.mp c.nd).2.1, rfl, c.tmp⟩
theorem REnv.start {F H : Hp} : ∀ {ts : List T} {vs : List V}, RpL K F H .cold ts vs [] → ∀ m, REnv K F H (ts.map (fun t => some (t, if t.nl then Own.full else .cold)) ++ List.replicate m none) (vs.map some ++ List.replicate m none) []
  | [], [], _, m => by
    induction m with
    | zero => rfl
    | succ m ih => exact ⟨[], [], rfl, by simpa using ih, rfl⟩
  | [], _ :: _, h, _ => by simp [RpL] at h
  | _ :: _, [], h, _ => by simp [RpL] at h
  | t :: ts, v :: vs, h, m => by
    simp only [RpL] at h
    obtain ⟨f1, f2, h1, h2, e⟩ := h
    have e1 := (List.append_eq_nil_iff.mp e.symm).1
    have e2 := (List.append_eq_nil_iff.mp e.symm).2
    subst e1 e2
    refine ⟨[], [], ⟨?_, v, rfl, ?_⟩, REnv.start h2 m, rfl⟩
    · split <;> rfl
    · split
      · rename_i n; exact (h1.nl n).2 _ _
      · exact h1
theorem I.start {ts : List T} {vs : List V} (s : Same F H) (r : RpL K F H .cold ts vs []) (n : Nat) (hn : N.length = n) : I K H F (startE n ts) (L2.start N vs) [] H := by
  refine ⟨F, [], [], s, fun _ _ e => e, fun _ _ => rfl, fun a m => by simp at m, by simp, ?_, rfl⟩
  unfold startE L2.start
  rw [← r.len, hn]
  exact REnv.start r _
/-- a def's text, its slots and parameters, its object -/
structure DefOk (K : PySem.W.Frag) (mg : Str → Option Value) (U : BF → Bool) (f : List Nat) (d : Fn) : Prop where
  ex : ∃ (a : Addr) (fd : FuncData) (ps N : List Str) (st : Stmt), mg (S8 f) = some (.ref a) ∧ PySem.W.keepIn K (.ref a) = true ∧ Binds K fd ps [] ∧ Fun K (S8 f) (S8 f) st a fd ∧ FnScope N ps (defScope st) ∧ ps.length = d.np ∧ N.length = d.ns ∧ mSs U N (defScope st) d.body (defBody st) = true
theorem fn_ok {f : List Nat} {d : Fn} {st : Stmt} {a : Addr} {fd : FuncData} {ps N : List Str} {n : Nat} {Fs : List Nat → Option Fn} (M : MOk K mg U G) (CO : COk P w K mg base n (runN G Fs n)) (hf : Fs f = some d)
    (FF : Fun K (S8 f) (S8 f) st a fd) (S : FnScope N ps (defScope st)) (h1 : ps.length = d.np) (h2 : N.length = d.ns) (hm : mSs U N (defScope st) d.body (defBody st) = true) :
    FnOk P w K mg base CX0 (n + 1) a fd ps (spC K ps.length (runN G Fs (n + 1) f)) := by
  refine FF.ok S (fun vs H Q E h => h.1) (fun cdv A outer s H vs Q E hr h => ?_)
  obtain ⟨hl, F, ts, t, o, sm, r, hc, q⟩ := h
  simp only [runN, hf, Option.bind_some] at hc
  split at hc
  · rename_i hts
    obtain ⟨fl, e1, hc⟩ := obind hc
    have ok : SOk P w K mg base n N (defScope st) (cxOf CX0 P w K mg base N (S8 f) (defScope st) a cdv A outer s H E).nox :=
      { prog := rfl, w_ := rfl, K_ := rfl, mg_ := rfl, base_ := rfl, N_ := rfl, nd := S.nd, sc_ := rfl, calm := rfl, room := hr, own := PassesOwn.never, kind := S.kind, fn := fun _ => rfl }
    obtain ⟨tt, p1, q1⟩ := okSs M CO d.body (defScope st) (defBody st) hm _ ok
    refine ⟨tt, p1, q1 _ _ _ _ _ _ fl _ (I.start sm r d.ns h2) (fun g m => by cases m) e1 ?_⟩
    cases fl with
    | nx ρ =>
      cases hc
      exact fun σ' H' h => q _ _ h.non.bare
    | rt t' o' =>
      simp only at hc
      split at hc
      · cases hc
      · cases hc
        exact fun ρ' σ' v H' h n => q _ _ h.bare
    | bk ρ => cases hc
    | ct ρ => cases hc
  · cases hc
/-- every def of a table -/
theorem all_ok {Fs : List Nat → Option Fn} (M : MOk K mg U G) (D : ∀ f d, Fs f = some d → DefOk K mg U f d) : ∀ n, COk P w K mg base n (runN G Fs n)
  | 0 => ⟨fun f h => (by obtain ⟨_, _, h⟩ := h; cases h), fun f ts r h => runN_nv h⟩
  | n + 1 => by
    have ih := all_ok M D n
    refine ⟨fun f h => ?_, fun f ts r h => runN_nv h⟩
    obtain ⟨ts, r, h⟩ := h
    cases hf : Fs f with
    | none => simp [runN, hf] at h
    | some d =>
      obtain ⟨a, fd, ps, N, st, e1, e2, e3, e4, e5, e6, e7, e8⟩ := (D f d hf).ex
      refine ⟨a, fd, ps, e1, e2, e3, fn_ok M ih hf e4 e5 e6 e7 e8, fun ts r h => ?_⟩
      simp only [runN, hf, Option.bind_some] at h
      split at h
      · rename_i z; rw [z, e6]
      · cases h
def noLst (K : PySem.W.Frag) : Bool := K.all fun p => match p.2.cls with | .type s => !(s == "list") | _ => true
theorem mem_lkp {α : Type} : ∀ {K : List (Addr × α)} {a : Addr} {o : α}, K.lookup a = some o → (a, o) ∈ K
  | [], _, _, h => by cases h
  | (b, x) :: K, a, o, h => by
    rw [List.lookup_cons] at h
    cases hb : a == b with
    | true =>
      rw [hb] at h
      have e : a = b := by simpa using hb
      cases h
      subst e
      exact List.mem_cons_self
    | false =>
      rw [hb] at h
      exact List.mem_cons_of_mem _ (mem_lkp h)
theorem noLst_of {K : PySem.W.Frag} (h : noLst K = true) {a : Addr} {o : Obj} (e : K.lookup a = some o) : o.cls ≠ .type "list" := by
  intro z
  unfold noLst at h
  rw [List.all_eq_true] at h
  have := h (a, o) (mem_lkp e)
  simp [z] at this
theorem rp_ints {F H : Hp} {o : Own} : ∀ ns : List Int, RpL K F H o (ns.map T.int) (ns.map V.int) []
  | [] => rfl
  | n :: ns => ⟨[], [], by simp [Rp], rp_ints ns, rfl⟩
theorem sp_law {a : Addr} {ns : List Int} {C : List T → Option (T × Own)} {o : Own} {E : XK} (noL : noLst K = true) (hS : SqL K H a (ns.map V.int)) (hC : C [.lst (ns.map T.int)] = some (.bl true, o)) :
    spC K 1 C [.ref a] H (fun v _ => v = .bl true) E := by
  refine ⟨rfl, H, [.lst (ns.map T.int)], .bl true, o, fun _ _ e => e, RpL.one.mpr ?_, hC, fun v H' h => h.isBl⟩
  rcases hS with hS | ⟨ob, its, n, hk, hc, _⟩
  · simp only [Rp]
    exact ⟨a, ns.map V.int, [], [], rfl, ⟨hS, rfl⟩, rp_ints ns, rfl⟩
  · exact (noLst_of noL hk hc).elim
def tabF (tb : List (List Nat × Fn)) (f : List Nat) : Option Fn := tb.lookup f
def tabG (tb : List (List Nat × T)) (f : List Nat) : Option T := tb.lookup f
def AllD (K : PySem.W.Frag) (mg : Str → Option Value) (U : BF → Bool) : List (List Nat × Fn) → Prop
  | [] => True
  | p :: r => DefOk K mg U p.1 p.2 ∧ AllD K mg U r
theorem lkp_mem {α : Type} : ∀ {tb : List (List Nat × α)} {f : List Nat} {d : α}, tb.lookup f = some d → (f, d) ∈ tb
  | [], _, _, h => by cases h
  | (b, x) :: tb, a, o, h => by
    rw [List.lookup_cons] at h
    cases hb : a == b with
    | true =>
      rw [hb] at h
      have e : a = b := by simpa using hb
      cases h
      subst e
      exact List.mem_cons_self
    | false =>
      rw [hb] at h
      exact List.mem_cons_of_mem _ (lkp_mem h)
theorem AllD.of : ∀ {tb : List (List Nat × Fn)}, AllD K mg U tb → ∀ f d, tabF tb f = some d → DefOk K mg U f d := by
  intro tb h f d e
  have m := lkp_mem e
  induction tb with
  | nil => cases m
  | cons p r ih =>
    rcases List.mem_cons.mp m with z | z
    · subst z; exact h.1
    · have : ∀ {tb : List (List Nat × Fn)}, AllD K mg U tb → (f, d) ∈ tb → DefOk K mg U f d := by
        intro tb
        induction tb with
        | nil => intro _ m; cases m
        | cons p r ih =>
          intro h m
          rcases List.mem_cons.mp m with z | z
          · subst z; exact h.1
          · exact ih h.2 z
      exact this h.2 z
def AllC (K : PySem.W.Frag) (mg : Str → Option Value) : List (List Nat × T) → Prop
  | [] => True
  | p :: r => (∃ u v, mg (S8 p.1) = some u ∧ RelV v u ∧ ∀ F H, Rp K F H .cold p.2 v []) ∧ AllC K mg r
theorem AllC.of {tb : List (List Nat × T)} (h : AllC K mg tb) : ∀ x t, tabG tb x = some t → ∃ u v, mg (S8 x) = some u ∧ RelV v u ∧ ∀ F H, Rp K F H .cold t v [] := by
  intro x t e
  have m := lkp_mem e
  clear e
  induction tb with
  | nil => cases m
  | cons p r ih =>
    rcases List.mem_cons.mp m with z | z
    · subst z; exact h.1
    · exact ih h.2 z
/-- a def of the text, from what the head knows -/
theorem d_mk {h : Heap} (X : K.In h) (Gn : h.Ns mainGlobals mg) {f : List Nat} {d : Fn} {nm : Str} {st : Stmt} {a : Addr} {oc kV dc pm cd ct : Value} {od an : Option Addr} {sl : Array (Option Value)} (e : S8 f = nm)
    (a1 : PySem.W.nsIn K mainGlobals nm = some (some (.ref a))) (l1 : K.lookup a = some ⟨oc, od, .func (PySem.W.fnOf nm nm (defArgs st) (defBody st) (defScope st) .none kV dc pm an cd ct), sl⟩)
    (c1 : PySem.W.codeIn K cd nm = true) (k1 : PySem.W.keepIn K (.ref a) = true) {ps N : List Str}
    (hb : ∀ (kV doc pm : Value) (an : Option Addr) (cdv ct : Value) (us : List Value), us.length = ps.length → bindArgs (PySem.W.fnOf nm nm (defArgs st) (defBody st) (defScope st) .none kV doc pm an cdv ct) ⟨us, []⟩ = pure (ps.zip us))
    (S : FnScope N ps (defScope st)) (h1 : ps.length = d.np) (h2 : N.length = d.ns) (hm : mSs U N (defScope st) d.body (defBody st) = true) : DefOk K mg U f d := by
  have FF := fun_mk (st := st) l1 c1 k1
  refine ⟨a, _, ps, N, st, by rw [e]; exact PySem.W.mg_of X Gn a1, k1, FF.binds hb, by rw [e]; exact FF, S, h1, h2, hm⟩
/-- a constant: a number, a text, a tuple of such -/
theorem c_int {h : Heap} (X : K.In h) (Gn : h.Ns mainGlobals mg) {f : List Nat} {nm : Str} {i : Int} {tk : Tok} (e : S8 f = nm) (a1 : PySem.W.nsIn K mainGlobals nm = some (some (.int i tk))) :
    ∃ u v, mg (S8 f) = some u ∧ RelV v u ∧ ∀ F H, Rp K F H .cold (.int i) v [] := ⟨_, .int i, by rw [e]; exact PySem.W.mg_of X Gn a1, ⟨tk, rfl⟩, fun F H => by simp [Rp]⟩
theorem c_str {h : Heap} (X : K.In h) (Gn : h.Ns mainGlobals mg) {f s : List Nat} {nm x : Str} {tk : Tok} (e : S8 f = nm) (a1 : PySem.W.nsIn K mainGlobals nm = some (some (.str x tk))) (ex : x = S8 s) (ha : ascB s = true) :
    ∃ u v, mg (S8 f) = some u ∧ RelV v u ∧ ∀ F H, Rp K F H .cold (.str s) v [] := ⟨_, .str x, by rw [e]; exact PySem.W.mg_of X Gn a1, ⟨tk, rfl⟩, fun F H => by subst ex; simp [Rp, S8, ascOf ha]⟩
/-- the items of a constant tuple -/
def Lit (t : T) (u : Value) : Prop := ∃ v, RelV v u ∧ ∀ K F H, Rp K F H .cold t v []
theorem lit_int {i : Int} {tk : Tok} : Lit (.int i) (.int i tk) := ⟨.int i, ⟨tk, rfl⟩, fun K F H => by simp [Rp]⟩
theorem lit_str {s : List Nat} {x : Str} {tk : Tok} (ex : x = S8 s) (ha : ascB s = true) : Lit (.str s) (.str x tk) := ⟨.str x, ⟨tk, rfl⟩, fun K F H => by subst ex; simp [Rp, S8, ascOf ha]⟩
def Lits : List T → List Value → Prop
  | [], [] => True
  | t :: ts, u :: us => Lit t u ∧ Lits ts us
  | _, _ => False
theorem Lits.rp : ∀ {ts : List T} {us : List Value}, Lits ts us → ∃ vs, Vals vs us ∧ ∀ K F H, RpL K F H .cold ts vs []
  | [], [], _ => ⟨[], .nil, fun _ _ _ => rfl⟩
  | t :: ts, u :: us, h => by
    obtain ⟨⟨v, r, q⟩, h2⟩ := h
    obtain ⟨vs, r2, q2⟩ := Lits.rp h2
    exact ⟨v :: vs, .cons r r2, fun K F H => ⟨[], [], q K F H, q2 K F H, rfl⟩⟩
  | [], _ :: _, h => h.elim
  | _ :: _, [], h => h.elim
theorem c_tup {h : Heap} (X : K.In h) (Gn : h.Ns mainGlobals mg) {f : List Nat} {nm : Str} {ts : List T} {a : Addr} {od : Option Addr} {sl : Array (Option Value)} {its : List Value} {n : Nat} (e : S8 f = nm) (a1 : PySem.W.nsIn K mainGlobals nm = some (some (.ref a)))
    (l1 : K.lookup a = some ⟨.type "tuple", od, .seq its.toArray n, sl⟩) (hz : its.length ≤ sizeLine) (hl : Lits ts its) :
    ∃ u v, mg (S8 f) = some u ∧ RelV v u ∧ ∀ F H, Rp K F H .cold (.tup ts) v [] := by
  obtain ⟨vs, r, q⟩ := hl.rp
  refine ⟨_, .ref a, by rw [e]; exact PySem.W.mg_of X Gn a1, rfl, fun F H => ?_⟩
  simp only [Rp]
  exact ⟨a, vs, rfl, .inr ⟨_, its.toArray, n, l1, rfl, rfl, by simpa using hz, by simpa using r⟩, q K F H⟩
/-- what the head's last goal asks -/
theorem law_F {l : PySem.W.OpenLaw} {w : World} {h : Heap} {fa : Addr} (X : K.In h) (Gn : h.Ns mainGlobals mg) (hfa : mg "law" = some (.ref fa)) {Gc : List (List Nat × T)} {tb : List (List Nat × Fn)} {n : Nat} {d : Fn} {f : List Nat} (M : MOk K mg U (tabG Gc)) (D : AllD K mg U tb) (hf : tabF tb f = some d) (ef : S8 f = "law")
    {st : Stmt} {a : Addr} {oc kV dc pm cd ct : Value} {od an : Option Addr} {sl : Array (Option Value)}
    (a1 : PySem.W.nsIn K mainGlobals "law" = some (some (.ref a))) (l1 : K.lookup a = some ⟨oc, od, .func (PySem.W.fnOf "law" "law" (defArgs st) (defBody st) (defScope st) .none kV dc pm an cd ct), sl⟩)
    (c1 : PySem.W.codeIn K cd "law" = true) (k1 : PySem.W.keepIn K (.ref a) = true) {N : List Str} {x : Str}
    (hb : ∀ (s : Shared) (u : Value), BindsTo s (PySem.W.fnOf "law" "law" (defArgs st) (defBody st) (defScope st) .none kV dc pm an cd ct) ⟨[u], []⟩ [(x, u)])
    (S : FnScope N [x] (defScope st)) (h1 : 1 = d.np) (h2 : N.length = d.ns) (hm : mSs U N (defScope st) d.body (defBody st) = true) :
    ∃ fd : FuncData, (∀ (s : Shared) (u : Value), BindsTo s fd ⟨[u], []⟩ [(x, u)]) ∧ ∀ base : Heap, K.In base → base.Ns mainGlobals mg → FnOk l.prog w K mg base CX0 (n + 1) fa fd [x] (spC K 1 (runN (tabG Gc) (tabF tb) (n + 1) f)) := by
  have e := hfa.symm.trans (PySem.W.mg_of X Gn a1)
  cases e
  refine ⟨_, hb, fun base _ _ => ?_⟩
  exact fn_ok M (all_ok M D.of n) hf (by rw [ef]; exact fun_mk (st := st) l1 c1 k1) S h1 h2 hm
end
end Ev
namespace Ev
open L2
open PySem (sizeLine)
section
variable {G : List Nat → Option T} {C : List Nat → List T → Option (T × Own)} {ρ : Env}
@[simp] theorem T.nl_non : T.nl .non = true := rfl
@[simp] theorem T.nl_bl {b} : T.nl (.bl b) = true := rfl
@[simp] theorem T.nl_int {b} : T.nl (.int b) = true := rfl
@[simp] theorem T.nl_str {b} : T.nl (.str b) = true := rfl
@[simp] theorem T.nl_tup {b} : T.nl (.tup b) = nlL b := rfl
@[simp] theorem T.nl_lst {b} : T.nl (.lst b) = false := rfl
@[simp] theorem nlL_nil : nlL [] = true := rfl
@[simp] theorem nlL_cons {x xs} : nlL (x :: xs) = (T.nl x && nlL xs) := rfl
@[simp] theorem val_full {t} : val ⟨t, .full, ρ⟩ = some ⟨t, .full, ρ⟩ := rfl
@[simp] theorem val_shal {t} : val ⟨t, .shal, ρ⟩ = some ⟨t, .shal, ρ⟩ := rfl
@[simp] theorem val_cold {t} : val ⟨t, .cold, ρ⟩ = some ⟨t, .cold, ρ⟩ := rfl
@[simp] theorem vo_f {r} : vo false r = some r := rfl
@[simp] theorem vo_t {r} : vo true r = val r := rfl
@[simp] theorem valD_c {c v} : (valD c v).c = c := rfl
@[simp] theorem valD_v {c v} : (valD c v).v = v := rfl
@[simp] theorem valD_t {c v} : (valD c v).t = tOf v := rfl
@[simp] theorem valD_i {c v} : (valD c v).i = iOf v := rfl
@[simp] theorem tstD_c {c v t} : (tstD c v t).c = c := rfl
@[simp] theorem tstD_v {c v t} : (tstD c v t).v = v := rfl
@[simp] theorem tstD_t {c v t} : (tstD c v t).t = t := rfl
@[simp] theorem tstD_i {c v t} : (tstD c v t).i = iOf v := rfl
@[simp] theorem itD_c {c i} : (itD c i).c = c := rfl
@[simp] theorem itD_i {c i} : (itD c i).i = i := rfl
@[simp] theorem isFull_full : Own.full.isFull = true := rfl
@[simp] theorem isFull_cold : Own.cold.isFull = false := rfl
@[simp] theorem isFull_shal : Own.shal.isFull = false := rfl
@[simp] theorem isView_full : Own.full.isView = false := rfl
@[simp] theorem isView_cold : Own.cold.isView = false := rfl
@[simp] theorem isView_shal : Own.shal.isView = false := rfl
@[simp] theorem minO_ff : minO .full .full = .full := rfl
@[simp] theorem minO_sf {o} : minO .shal o = .shal := rfl
@[simp] theorem minO_cf {o} : minO .cold o = .shal := rfl
@[simp] theorem minO_fs : minO .full .shal = .shal := rfl
@[simp] theorem minO_fc : minO .full .cold = .shal := rfl
@[simp] theorem kidO_f : kidO .full = .full := rfl
@[simp] theorem kidO_s : kidO .shal = .cold := rfl
@[simp] theorem kidO_c : kidO .cold = .cold := rfl
@[simp] theorem seq_nx {ρ k} : (Fl.nx ρ).seq k = k ρ := rfl
@[simp] theorem seq_rt {t o k} : (Fl.rt t o).seq k = some (.rt t o) := rfl
@[simp] theorem seq_bk {ρ k} : (Fl.bk ρ).seq k = some (.bk ρ) := rfl
@[simp] theorem seq_ct {ρ k} : (Fl.ct ρ).seq k = some (.ct ρ) := rfl
@[simp] theorem turn_nx {ρ k} : (Fl.nx ρ).turn k = k ρ := rfl
@[simp] theorem turn_ct {ρ k} : (Fl.ct ρ).turn k = k ρ := rfl
@[simp] theorem turn_bk {ρ k} : (Fl.bk ρ).turn k = some (.nx ρ) := rfl
@[simp] theorem turn_rt {t o k} : (Fl.rt t o).turn k = some (.rt t o) := rfl
theorem le_size {n : Nat} (h : n ≤ 100000) : n ≤ PySem.sizeLine := Nat.le_trans h (by decide)
theorem lt_size {n : Nat} (h : n ≤ 100000) : n < PySem.sizeLine := Nat.lt_of_le_of_lt h (by decide)
@[simp] theorem den_int {i} : den G C (.int i) = valD false fun ρ => some ⟨.int i, .full, ρ⟩ := by first | (simp only [den]; done) | (simp only [den]; rfl)
@[simp] theorem den_bl {b} : den G C (.bl b) = valD false fun ρ => some ⟨.bl b, .full, ρ⟩ := by first | (simp only [den]; done) | (simp only [den]; rfl)
@[simp] theorem den_non : den G C .non = valD false fun ρ => some ⟨.non, .full, ρ⟩ := by first | (simp only [den]; done) | (simp only [den]; rfl)
@[simp] theorem den_str {s} : den G C (.str s) = valD false fun ρ => some ⟨.str s, .full, ρ⟩ := by first | (simp only [den]; done) | (simp only [den]; rfl)
@[simp] theorem den_var {i} : den G C (.var i) = valD false fun ρ => match ρ[i]? with
    | some (some (t, _)) => some (if t.nl then ⟨t, .full, ρ⟩ else ⟨t, .view i, ρ⟩)
    | _ => none := by first | (simp only [den]; done) | (simp only [den]; rfl)
@[simp] theorem den_mov {i} : den G C (.mov i) = valD false fun ρ => match ρ[i]? with
    | some (some (t, o)) => some (if t.nl then ⟨t, .full, ρ⟩ else ⟨t, o, ρ.set i none⟩)
    | _ => none := by first | (simp only [den]; done) | (simp only [den]; rfl)
@[simp] theorem den_glob {x} : den G C (.glob x) = valD false fun ρ => (G x).map fun t => mk t .cold ρ := by first | (simp only [den]; done) | (simp only [den]; rfl)
@[simp] theorem den_bin {op a b} : den G C (.bin op a b) = valD ((den G C a).c || (den G C b).c) fun ρ => ((den G C a).v ρ).bind fun r0 => (vo (den G C b).c r0).bind fun ra => ((den G C b).v ra.ρ).bind fun rb => if repOk op ra.t ra.o then shareR2 (binV op) ra.t ra.o rb.t rb.o rb.ρ else none := by first | (simp only [den]; done) | (simp only [den]; rfl)
@[simp] theorem den_neg {a} : den G C (.neg a) = valD (den G C a).c fun ρ => ((den G C a).v ρ).bind fun ra => match ra.t with
    | .int i => some ⟨.int (-i), .full, ra.ρ⟩
    | _ => none := by first | (simp only [den]; done) | (simp only [den]; rfl)
@[simp] theorem den_notv {a} : den G C (.notv a) = tstD (den G C a).c (fun ρ => ((den G C a).v ρ).bind fun r => (truth r.t).map fun b => ⟨.bl (!b), .full, r.ρ⟩) (fun ρ => ((den G C a).t ρ).map fun k => (!k.1, k.2)) := by first | (simp only [den]; done) | (simp only [den]; rfl)
@[simp] theorem den_cmp {op a b} : den G C (.cmp op a b) = valD ((den G C a).c || (den G C b).c) fun ρ => ((den G C a).v ρ).bind fun r0 => (vo (den G C b).c r0).bind fun ra => ((den G C b).v ra.ρ).bind fun rb => (cmpV op ra.t rb.t).map fun k => ⟨.bl k, .full, rb.ρ⟩ := by first | (simp only [den]; done) | (simp only [den]; rfl)
@[simp] theorem den_chain {op op' a b c} : den G C (.chain op op' a b c) = valD ((den G C a).c || ((den G C b).c || (den G C c).c)) fun ρ => ((den G C a).v ρ).bind fun r0 => (vo ((den G C b).c || (den G C c).c) r0).bind fun ra => ((den G C b).v ra.ρ).bind fun r1 => (vo (den G C c).c r1).bind fun rb => (cmpV op ra.t rb.t).bind fun k =>
    if k then ((den G C c).v rb.ρ).bind fun rc => (cmpV op' rb.t rc.t).map fun k' => ⟨.bl k', .full, rc.ρ⟩ else some ⟨.bl false, .full, rb.ρ⟩ := by first | (simp only [den]; done) | (simp only [den]; rfl)
@[simp] theorem den_andv {es} : den G C (.andv es) = tstD (anyC (denL G C es)) (andVals (denL G C es)) (andTs (denL G C es)) := by first | (simp only [den]; done) | (simp only [den]; rfl)
@[simp] theorem den_orv {es} : den G C (.orv es) = tstD (anyC (denL G C es)) (orVals (denL G C es)) (orTs (denL G C es)) := by first | (simp only [den]; done) | (simp only [den]; rfl)
@[simp] theorem den_ife {c a b} : den G C (.ife c a b) = tstD ((den G C c).c || ((den G C a).c || (den G C b).c)) (fun ρ => ((den G C c).t ρ).bind fun k => if k.1 then ((den G C a).v k.2).bind val else ((den G C b).v k.2).bind val) (fun _ => none) := by first | (simp only [den]; done) | (simp only [den]; rfl)
@[simp] theorem den_tup {es} : den G C (.tup es) = valD (anyC (denL G C es)) fun ρ => (evL (denL G C es) ρ).bind fun x => if x.1.length ≤ sizeLine then some (mk (.tup x.1) (kidO x.2.1) x.2.2) else none := by first | (simp only [den]; done) | (simp only [den]; rfl)
@[simp] theorem den_lst {es} : den G C (.lst es) = valD (anyC (denL G C es)) fun ρ => (evL (denL G C es) ρ).bind fun x => if x.1.length ≤ sizeLine then some ⟨.lst x.1, x.2.1, x.2.2⟩ else none := by first | (simp only [den]; done) | (simp only [den]; rfl)
@[simp] theorem den_ix {a i} : den G C (.ix a i) = valD ((den G C a).c || (den G C i).c) fun ρ => ((den G C a).v ρ).bind fun r0 => (vo (den G C i).c r0).bind fun ra => ((den G C i).v ra.ρ).bind fun ri => pickR (fun x => ixV x ri.t) ra.t ra.o ri.ρ := by first | (simp only [den]; done) | (simp only [den]; rfl)
@[simp] theorem den_sl {a lo hi} : den G C (.sl a lo hi) = valD ((den G C a).c || (anyC (denL G C lo) || anyC (denL G C hi))) fun ρ => ((den G C a).v ρ).bind fun r0 => (vo (anyC (denL G C lo) || anyC (denL G C hi)) r0).bind fun ra => (evO (denL G C lo) ra.ρ).bind fun rl => (evO (denL G C hi) rl.2).bind fun rh => shareR1 (slV rl.1 rh.1) ra.t ra.o rh.2 := by first | (simp only [den]; done) | (simp only [den]; rfl)
@[simp] theorem den_rev {a} : den G C (.rev a) = valD (den G C a).c fun ρ => ((den G C a).v ρ).bind fun ra => shareR1 revV ra.t ra.o ra.ρ := by first | (simp only [den]; done) | (simp only [den]; rfl)
@[simp] theorem den_call {f es} : den G C (.call f es) = valD (anyC (denL G C es)) fun ρ => (evV (denL G C es) ρ).bind fun x => (reL x.1 x.2.1 x.2.2).bind fun z => (C f z.1).map fun y => if y.2.isFull then ⟨y.1, .full, x.2.2⟩ else ⟨y.1, y.2, z.2⟩ := by first | (simp only [den]; done) | (simp only [den]; rfl)
@[simp] theorem den_blt {f es} : den G C (.blt f es) = valD (anyC (denL G C es)) fun ρ => (evV (denL G C es) ρ).bind fun x => shareB (bltV f) x.1 x.2.1 x.2.2 := by first | (simp only [den]; done) | (simp only [den]; rfl)
@[simp] theorem den_isi {a c} : den G C (.isi a c) = valD (den G C a).c fun ρ => ((den G C a).v ρ).map fun ra => ⟨.bl (isiV c ra.t), .full, ra.ρ⟩ := by first | (simp only [den]; done) | (simp only [den]; rfl)
@[simp] theorem den_meth {f a es} : den G C (.meth f a es) = valD ((den G C a).c || anyC (denL G C es)) fun ρ => ((den G C a).v ρ).bind fun r0 => (vo (anyC (denL G C es)) r0).bind fun ra => (evV (denL G C es) ra.ρ).bind fun x => (methV f ra.t x.1).bind fun t => if t.nl then some ⟨t, .full, x.2.2⟩ else none := by first | (simp only [den]; done) | (simp only [den]; rfl)
@[simp] theorem den_lc {elt tg it ifs own} : den G C (.lc elt tg it ifs own) = valD true fun ρ => ((den G C it).i ρ).bind fun x =>
    (lcLoop own (fun x ρ => bindT tg x .cold ρ) (fun ρ => evTs (denL G C ifs) ρ) (fun ρ => ((den G C elt).v ρ).bind val) x.1 [] .full x.2).map fun y => ⟨.lst y.1, y.2.1, backE x.2 own y.2.2⟩ := by first | (simp only [den]; done) | (simp only [den]; rfl)
@[simp] theorem den_rng {es} : den G C (.rng es) = itD (anyC (denL G C es)) fun ρ => (evV (denL G C es) ρ).bind fun x => (rngV x.1).map fun xs => (xs, x.2.2) := by first | (simp only [den]; done) | (simp only [den]; rfl)
@[simp] theorem den_zip {a b} : den G C (.zip a b) = itD ((den G C a).c || (den G C b).c) fun ρ => ((den G C a).v ρ).bind fun r0 => (vo (den G C b).c r0).bind fun ra => ((den G C b).v ra.ρ).bind fun rb => (reT ra.t ra.o rb.ρ).bind fun x => (reT rb.t rb.o x.2).bind fun y => match x.1, y.1 with
    | .lst xs, .lst ys => some ((xs.zip ys).map fun p => .tup [p.1, p.2], y.2)
    | _, _ => none := by first | (simp only [den]; done) | (simp only [den]; rfl)
@[simp] theorem den_enum {a} : den G C (.enum a) = itD (den G C a).c fun ρ => ((den G C a).v ρ).bind fun ra => (reT ra.t ra.o ra.ρ).bind fun x => match x.1 with
    | .lst xs => some (xs.zipIdx.map fun p => .tup [.int (p.2 : Nat), p.1], x.2)
    | _ => none := by first | (simp only [den]; done) | (simp only [den]; rfl)
@[simp] theorem den_revd {a} : den G C (.revd a) = itD (den G C a).c fun ρ => ((den G C a).v ρ).bind fun ra => (reT ra.t ra.o ra.ρ).bind fun x => match x.1 with
    | .lst xs => some (xs.reverse, x.2)
    | _ => none := by first | (simp only [den]; done) | (simp only [den]; rfl)
@[simp] theorem denL_nil : denL G C [] = [] := rfl
@[simp] theorem denL_cons {e es} : denL G C (e :: es) = den G C e :: denL G C es := rfl
@[simp] theorem exS_set {i e} : exS G C (.set i e) ρ = (((den G C e).v ρ).bind fun r0 => (val r0).bind fun r => (bindT (.nm i) r.t r.o r.ρ).map .nx) := by first | (simp only [exS]; done) | (simp only [exS]; rfl)
@[simp] theorem exS_setc {i elt tg it ifs own} : exS G C (.setc i elt tg it ifs own) ρ = (((den G C (.lc elt tg it ifs own)).v ρ).bind fun r => (bindT (.nm i) r.t r.o r.ρ).map .nx) := by first | (simp only [exS]; done) | (simp only [exS]; rfl)
@[simp] theorem exS_asg {tg e} : exS G C (.asg tg e) ρ = (((den G C e).v ρ).bind fun r0 => (val r0).bind fun r => (bindT tg r.t r.o r.ρ).map .nx) := by first | (simp only [exS]; done) | (simp only [exS]; rfl)
@[simp] theorem exS_par {i j a b} : exS G C (.par i j a b) ρ = (((den G C a).v ρ).bind fun a0 => (val a0).bind fun ra => ((den G C b).v ra.ρ).bind fun b0 => (val b0).bind fun rb =>
    (bindT (.nm i) ra.t ra.o rb.ρ).bind fun ρ' => (bindT (.nm j) rb.t rb.o ρ').map .nx) := by first | (simp only [exS]; done) | (simp only [exS]; rfl)
@[simp] theorem exS_aug {i op e} : exS G C (.aug i op e) ρ = (match ρ[i]? with
    | some (some (t, _)) => ((den G C e).v ρ).bind fun r => (augV op t r.t).bind fun t' => (bindT (.nm i) t' .full r.ρ).map .nx
    | _ => none) := by first | (simp only [exS]; done) | (simp only [exS]; rfl)
@[simp] theorem exS_app {i ixs e} : exS G C (.app i ixs e) ρ = (match ρ[i]? with
    | some (some (.lst _, _)) => (evIs (denL G C ixs) ρ).bind fun ks => ((den G C e).v ks.2).bind fun r0 => (val r0).bind fun r => (modS i ks.1 (appV r.t) r.o r.ρ).map .nx
    | _ => none) := by first | (simp only [exS]; done) | (simp only [exS]; rfl)
@[simp] theorem exS_seti {i ixs k e} : exS G C (.seti i ixs k e) ρ = (((den G C e).v ρ).bind fun r0 => (val r0).bind fun r => match r.ρ[i]? with
    | some (some _) => (evIs (denL G C ixs) r.ρ).bind fun ks => ((den G C k).v ks.2).bind fun rk => match rk.t with
      | .int k => (modS i ks.1 (setV k r.t) r.o rk.ρ).map .nx
      | _ => none
    | _ => none) := by first | (simp only [exS]; done) | (simp only [exS]; rfl)
@[simp] theorem exS_exp {e} : exS G C (.exp e) ρ = (((den G C e).v ρ).map fun r => .nx r.ρ) := by first | (simp only [exS]; done) | (simp only [exS]; rfl)
@[simp] theorem exS_ret {e} : exS G C (.ret e) ρ = (((den G C e).v ρ).bind fun r0 => (val r0).map fun r => .rt r.t r.o) := by first | (simp only [exS]; done) | (simp only [exS]; rfl)
@[simp] theorem exS_retN : exS G C .retN ρ = (some (.rt .non .full)) := by first | (simp only [exS]; done) | (simp only [exS]; rfl)
@[simp] theorem exS_ite {c a b} : exS G C (.ite c a b) ρ = (((den G C c).t ρ).bind fun k => if k.1 then exSs G C a k.2 else exSs G C b k.2) := by first | (simp only [exS]; done) | (simp only [exS]; rfl)
@[simp] theorem exS_whl {c b} : exS G C (.whl c b) ρ = (whlLoop (den G C c).t (exSs G C b) whlMost ρ) := by first | (simp only [exS]; done) | (simp only [exS]; rfl)
@[simp] theorem exS_for_ {tg it b} : exS G C (.for_ tg it b) ρ = (((den G C it).i ρ).bind fun x => forLoop (fun x ρ => bindT tg x .cold ρ) (exSs G C b) x.1 x.2) := by first | (simp only [exS]; done) | (simp only [exS]; rfl)
@[simp] theorem exS_pass : exS G C .pass ρ = (some (.nx ρ)) := by first | (simp only [exS]; done) | (simp only [exS]; rfl)
@[simp] theorem exS_brk : exS G C .brk ρ = (some (.bk ρ)) := by first | (simp only [exS]; done) | (simp only [exS]; rfl)
@[simp] theorem exS_cnt : exS G C .cnt ρ = (some (.ct ρ)) := by first | (simp only [exS]; done) | (simp only [exS]; rfl)
@[simp] theorem exSs_nil : exSs G C [] ρ = some (.nx ρ) := by simp only [exSs]
@[simp] theorem exSs_cons {s ss} : exSs G C (s :: ss) ρ = (exS G C s ρ).bind fun f => f.seq (exSs G C ss) := by simp only [exSs]
end
section
variable {i j k : Int} {x y : List Nat} {xs ys : List T} {t u : T} {o q : Own} {ρ : Env}
@[simp] theorem truth_non : truth .non = some false := rfl
@[simp] theorem truth_bl {b} : truth (.bl b) = some b := rfl
@[simp] theorem truth_int : truth (.int i) = some (i != 0) := rfl
@[simp] theorem truth_str : truth (.str x) = some (!x.isEmpty) := rfl
@[simp] theorem truth_tup : truth (.tup xs) = some (!xs.isEmpty) := rfl
@[simp] theorem truth_lst : truth (.lst xs) = some (!xs.isEmpty) := rfl
@[simp] theorem bin_add : binV .add (.int i) (.int j) = some (.int (i + j)) := rfl
@[simp] theorem bin_sub : binV .sub (.int i) (.int j) = some (.int (i - j)) := rfl
@[simp] theorem bin_mul : binV .mul (.int i) (.int j) = if i.natAbs.log2 + j.natAbs.log2 < 1000000 ∨ i.natAbs < 2 ^ 64 ∨ j.natAbs < 2 ^ 64 then some (.int (i * j)) else none := rfl
@[simp] theorem bin_fdiv : binV .fdiv (.int i) (.int j) = if 0 < j ∧ j.natAbs.log2 < 9000 then some (.int (i / j)) else if j < 0 ∧ j.natAbs < 1073741824 then some (.int (i.fdiv j)) else none := rfl
@[simp] theorem bin_mod : binV .mod (.int i) (.int j) = if 0 < j then some (.int (i % j)) else if j < 0 then some (.int (i.fmod j)) else none := rfl
@[simp] theorem bin_pow : binV .pow (.int i) (.int j) = if 0 ≤ j ∧ j ≤ 1000000 ∧ i.natAbs < 2 ^ 64 then some (.int (i ^ j.toNat)) else none := rfl
@[simp] theorem bin_adds : binV .add (.str x) (.str y) = if x.length + y.length ≤ PySem.sizeLine then some (.str (x ++ y)) else none := rfl
@[simp] theorem bin_addl : binV .add (.lst xs) (.lst ys) = if xs.length + ys.length ≤ PySem.sizeLine then some (.lst (xs ++ ys)) else none := rfl
@[simp] theorem bin_mull : binV .mul (.lst xs) (.int k) = if k.natAbs < 2 ^ 63 ∧ xs.length * k.toNat ≤ PySem.sizeLine then some (.lst (List.replicate k.toNat xs).flatten) else none := rfl
@[simp] theorem aug_add : augV .add (.int i) (.int j) = some (.int (i + j)) := rfl
@[simp] theorem aug_sub : augV .sub (.int i) (.int j) = some (.int (i - j)) := rfl
@[simp] theorem aug_adds : augV .add (.str x) (.str y) = if x.length + y.length ≤ PySem.sizeLine then some (.str (x ++ y)) else none := rfl
@[simp] theorem cmp_lt : cmpV .lt (.int i) (.int j) = some (decide (i < j)) := rfl
@[simp] theorem cmp_le : cmpV .le (.int i) (.int j) = some (decide (i ≤ j)) := rfl
@[simp] theorem cmp_gt : cmpV .gt (.int i) (.int j) = some (decide (j < i)) := rfl
@[simp] theorem cmp_ge : cmpV .ge (.int i) (.int j) = some (decide (j ≤ i)) := rfl
@[simp] theorem cmp_slt : cmpV .lt (.str x) (.str y) = some (lexN x y) := rfl
@[simp] theorem cmp_is : cmpV .is t .non = some (isNon t) := by cases t <;> rfl
@[simp] theorem cmp_isn : cmpV .isn t .non = some (!isNon t) := by cases t <;> rfl
@[simp] theorem cmp_mem : cmpV .mem t u = memV t u := by cases t <;> cases u <;> rfl
@[simp] theorem cmp_nmem : cmpV .nmem t u = (memV t u).map (!·) := by cases t <;> cases u <;> rfl
theorem cmp_eq (h1 : T.depLe 64 t = true) (h2 : T.depLe 64 u = true) : cmpV .eq t u = some (eqT t u) := by
  have : cmpV .eq t u = if T.depLe 64 t && T.depLe 64 u then some (eqT t u) else none := by cases t <;> cases u <;> rfl
  rw [this, h1, h2]; rfl
theorem cmp_ne (h1 : T.depLe 64 t = true) (h2 : T.depLe 64 u = true) : cmpV .ne t u = some (!eqT t u) := by
  have : cmpV .ne t u = if T.depLe 64 t && T.depLe 64 u then some (!eqT t u) else none := by cases t <;> cases u <;> rfl
  rw [this, h1, h2]; rfl
@[simp] theorem cmp_eqi : cmpV .eq (.int i) (.int j) = some (i == j) := rfl
@[simp] theorem cmp_nei : cmpV .ne (.int i) (.int j) = some (!(i == j)) := rfl
@[simp] theorem cmp_eqb {b b'} : cmpV .eq (.bl b) (.bl b') = some (b == b') := rfl
@[simp] theorem cmp_eqs : cmpV .eq (.str x) (.str y) = some (x == y) := rfl
@[simp] theorem cmp_nes : cmpV .ne (.str x) (.str y) = some (!(x == y)) := rfl
@[simp] theorem isNon_non : isNon .non = true := rfl
@[simp] theorem isNon_lst : isNon (.lst xs) = false := rfl
@[simp] theorem isNon_tup : isNon (.tup xs) = false := rfl
@[simp] theorem isNon_int : isNon (.int i) = false := rfl
@[simp] theorem isNon_str : isNon (.str x) = false := rfl
@[simp] theorem isNon_bl {b} : isNon (.bl b) = false := rfl
@[simp] theorem len_lst : bltV .len [.lst xs] = some (.int xs.length) := rfl
@[simp] theorem len_tup : bltV .len [.tup xs] = some (.int xs.length) := rfl
@[simp] theorem len_str : bltV .len [.str x] = some (.int x.length) := rfl
@[simp] theorem b_abs : bltV .abs [.int i] = some (.int (if i < 0 then -i else i)) := rfl
@[simp] theorem b_int : bltV .int [.int i] = some (.int i) := rfl
@[simp] theorem b_intb {b} : bltV .int [.bl b] = some (.int (if b then 1 else 0)) := rfl
@[simp] theorem b_list : bltV .list [.lst xs] = some (.lst xs) := rfl
@[simp] theorem b_listt : bltV .list [.tup xs] = some (.lst xs) := rfl
@[simp] theorem b_tuple : bltV .tuple [.lst xs] = some (.tup xs) := rfl
@[simp] theorem b_sum : bltV .sum [.lst xs] = (intsV xs).map fun ns => .int ns.sum := rfl
@[simp] theorem b_any : bltV .any [.lst xs] = (blsV xs).map fun bs => .bl (bs.any id) := rfl
@[simp] theorem b_all : bltV .all [.lst xs] = (blsV xs).map fun bs => .bl (bs.all id) := rfl
@[simp] theorem b_gcd : bltV .gcd [.int i, .int j] = some (.int ((Nat.gcd i.natAbs j.natAbs : Nat) : Int)) := rfl
@[simp] theorem b_max2 : bltV .max2 [.int i, .int j] = some (.int (if j > i then j else i)) := rfl
@[simp] theorem b_min2 : bltV .min2 [.int i, .int j] = some (.int (if j < i then j else i)) := rfl
@[simp] theorem shareB_1 {g} : shareB g [t] [o] ρ = shareR1 (fun x => g [x]) t o ρ := rfl
@[simp] theorem shareB_2 {g t2 o2} : shareB g [t, t2] [o, o2] ρ = ((g [t, t2]).bind fun y => if y.nl then some ⟨y, .full, ρ⟩ else none) := rfl
@[simp] theorem shareR1_ {g : T → Option T} : shareR1 g t o ρ = ((g t).bind fun y => if y.nl then some ⟨y, .full, ρ⟩ else match y with
    | .lst ys => if nlL ys then some ⟨y, .full, ρ⟩ else (reT t o ρ).bind fun x => (g x.1).bind fun z => match z with
      | .lst zs => some ⟨.lst zs, .shal, x.2⟩
      | _ => none
    | _ => (reT t o ρ).bind fun x => (g x.1).bind fun z => match z with
      | .tup zs => some ⟨.tup zs, .cold, x.2⟩
      | _ => none) := rfl
@[simp] theorem shareR2_ {g : T → T → Option T} : shareR2 g t o u q ρ = ((g t u).bind fun y => if y.nl then some ⟨y, .full, ρ⟩ else match y with
    | .lst ys => if nlL ys then some ⟨y, .full, ρ⟩ else (reT t o ρ).bind fun x => (reT u q x.2).bind fun x' => (g x.1 x'.1).bind fun z => match z with
      | .lst zs => some ⟨.lst zs, .shal, x'.2⟩
      | _ => none
    | _ => (reT t o ρ).bind fun x => (reT u q x.2).bind fun x' => (g x.1 x'.1).bind fun z => match z with
      | .tup zs => some ⟨.tup zs, .cold, x'.2⟩
      | _ => none) := rfl
theorem share1_some {g : T → Option T} {y : T} (h : g t = some y) (n : y.nl = true) : shareR1 g t o ρ = some ⟨y, .full, ρ⟩ := by unfold shareR1; simp [h, n]
theorem share1_lst {g : T → Option T} {ys : List T} (h : g t = some (.lst ys)) (n : nlL ys = true) : shareR1 g t o ρ = some ⟨.lst ys, .full, ρ⟩ := by unfold shareR1; simp [h, n, T.nl]
theorem share2_some {g : T → T → Option T} {y : T} (h : g t u = some y) (n : y.nl = true) : shareR2 g t o u q ρ = some ⟨y, .full, ρ⟩ := by unfold shareR2; simp [h, n]
@[simp] theorem repOk_add : repOk .add t o = true := by cases t <;> rfl
@[simp] theorem repOk_sub : repOk .sub t o = true := by cases t <;> rfl
@[simp] theorem repOk_mod : repOk .mod t o = true := by cases t <;> rfl
@[simp] theorem repOk_fdiv : repOk .fdiv t o = true := by cases t <;> rfl
@[simp] theorem repOk_pow : repOk .pow t o = true := by cases t <;> rfl
@[simp] theorem repOk_muli : repOk .mul (.int i) o = true := rfl
@[simp] theorem repOk_mulf : repOk .mul (.lst xs) .full = nlL xs := rfl
@[simp] theorem repOk_muls : repOk .mul (.lst xs) .shal = nlL xs := rfl
@[simp] theorem ix_lst : ixV (.lst xs) (.int i) = L2.atI xs i := rfl
@[simp] theorem ix_tup : ixV (.tup xs) (.int i) = L2.atI xs i := rfl
@[simp] theorem ix_strI : ixV (.str x) (.int i) = (L2.atI x i).map fun c => .str [c] := rfl
theorem atI_nn {α : Type} {l : List α} (h : 0 ≤ i) : L2.atI l i = l[i.toNat]? := by
  unfold L2.atI L2.ixN
  rw [if_pos h]
  split
  · rfl
  · rename_i h2
    rw [List.getElem?_eq_none (by omega)]; rfl
@[simp] theorem atI_ofNat {α : Type} {l : List α} {n : Nat} : L2.atI l (n : Int) = l[n]? := by rw [atI_nn (by omega)]; simp
@[simp] theorem atI_0 {α : Type} {l : List α} : L2.atI l 0 = l[0]? := atI_nn (by decide)
@[simp] theorem atI_1 {α : Type} {l : List α} : L2.atI l 1 = l[1]? := atI_nn (by decide)
@[simp] theorem atI_2 {α : Type} {l : List α} : L2.atI l 2 = l[2]? := atI_nn (by decide)
@[simp] theorem pick_nl {g : T → Option T} : pickR g t o ρ = ((g t).bind fun y => if y.nl then some ⟨y, .full, ρ⟩ else (reT t o ρ).bind fun x => (g x.1).map fun z => ⟨z, .cold, x.2⟩) := rfl
@[simp] theorem reT_full : reT t .full ρ = some (t, ρ) := rfl
@[simp] theorem reT_cold : reT t .cold ρ = some (t, ρ) := rfl
@[simp] theorem reT_shal : reT t .shal ρ = some (t, ρ) := rfl
@[simp] theorem reT_view {n : Nat} : reT t (.view n) ρ = (match ρ[n]? with
    | some (some (t', _)) => some (t', ρ.set n (some (t', .cold)))
    | _ => none) := rfl
@[simp] theorem val_view {n : Nat} : val ⟨t, .view n, ρ⟩ = (match ρ[n]? with
    | some (some (t', _)) => some ⟨t', .cold, ρ.set n (some (t', .cold))⟩
    | _ => none) := rfl
@[simp] theorem items_lst : itemsV (.lst xs) = some xs := rfl
@[simp] theorem items_tup : itemsV (.tup xs) = some xs := rfl
@[simp] theorem items_str : itemsV (.str x) = some (x.map fun c => .str [c]) := rfl
theorem rng_1 (h : j.natAbs < 2 ^ 62) : rngV [.int j] = some ((List.range j.toNat).map fun i => .int (i : Nat)) := by
  show (if j.natAbs < 2 ^ 62 then _ else none) = _
  rw [if_pos h]
theorem rng_n {n : Nat} (h : n < 2 ^ 62) : rngV [.int (n : Int)] = some ((List.range n).map fun i => .int (i : Nat)) := by
  rw [rng_1 (by omega)]; simp
theorem rng_2 (h : i.natAbs < 2 ^ 62 ∧ j.natAbs < 2 ^ 62) : rngV [.int i, .int j] = some ((List.range (j - i).toNat).map fun k => .int (i + (k : Nat))) := by
  show (if _ then _ else none) = _
  rw [if_pos h]
@[simp] theorem mk_nl (h : t.nl = true) : mk t o ρ = ⟨t, .full, ρ⟩ := by unfold mk; rw [if_pos h]
@[simp] theorem isi_int : isiV .int (.int i) = true := rfl
@[simp] theorem intsV_nil : intsV [] = some [] := rfl
@[simp] theorem intsV_cons {r : List T} : intsV (.int i :: r) = (intsV r).map (i :: ·) := rfl
@[simp] theorem intsV_map : ∀ {l : List Int}, intsV (l.map T.int) = some l
  | [] => rfl
  | i :: l => by rw [List.map_cons, intsV_cons, intsV_map]; rfl
@[simp] theorem nlL_ints : ∀ {l : List Int}, nlL (l.map T.int) = true
  | [] => rfl
  | i :: l => by rw [List.map_cons, nlL_cons, nlL_ints]; rfl
theorem nlL_map {α : Type} {f : α → T} (h : ∀ a, (f a).nl = true) : ∀ {l : List α}, nlL (l.map f) = true
  | [] => rfl
  | a :: l => by rw [List.map_cons, nlL_cons, nlL_map h, h a]; rfl
@[simp] theorem appV_lst : appV t (.lst xs) = if xs.length < PySem.sizeLine then some (.lst (xs ++ [t])) else none := rfl
@[simp] theorem modAt_nil {f : T → Option T} : modAt f [] t = f t := rfl
@[simp] theorem modO_ff : modO false t .full .full = some .full := rfl
@[simp] theorem modO_s : modO false t .shal o = some .shal := by cases o <;> rfl
@[simp] theorem modO_fc : modO false (.lst xs) .full .cold = some .shal := rfl
@[simp] theorem modO_fs : modO false (.lst xs) .full .shal = some .shal := rfl
@[simp] theorem modS_0 {n : Nat} {f : T → Option T} : modS n [] f o ρ = (match ρ[n]? with
  | some (some (t, o')) => (f t).bind fun t' => (modO false t o' o).map fun o'' => ρ.set n (some (t', o''))
  | _ => none) := rfl
@[simp] theorem setV_lst : setV k t (.lst xs) = (L2.ixN xs.length k).map fun j => .lst (xs.set j t) := rfl
@[simp] theorem evV_nil : evV [] ρ = some ([], [], ρ) := rfl
@[simp] theorem evV_cons {e es} : evV (e :: es) ρ = (e.v ρ).bind fun r0 => (vo (anyC es) r0).bind fun r => (evV es r.ρ).map fun x => (r.t :: x.1, r.o :: x.2.1, x.2.2) := rfl
@[simp] theorem evL_nil : evL [] ρ = some ([], .full, ρ) := rfl
@[simp] theorem evL_cons {e es} : evL (e :: es) ρ = (e.v ρ).bind fun r0 => (val r0).bind fun r => (evL es r.ρ).map fun x => (r.t :: x.1, minO r.o x.2.1, x.2.2) := rfl
@[simp] theorem evIs_nil : evIs [] ρ = some ([], ρ) := rfl
@[simp] theorem anyC_nil : anyC [] = false := rfl
@[simp] theorem anyC_cons {d ds} : anyC (d :: ds) = (d.c || anyC ds) := rfl
@[simp] theorem evTs_nil : evTs [] ρ = some (true, ρ) := rfl
@[simp] theorem evTs_one {c} : evTs [c] ρ = c.t ρ := rfl
@[simp] theorem reL_nil : reL [] [] ρ = some ([], ρ) := rfl
@[simp] theorem reL_cons {ts os} : reL (t :: ts) (o :: os) ρ = (reT t o ρ).bind fun x => (reL ts os x.2).map fun y => (x.1 :: y.1, y.2) := rfl
@[simp] theorem bindT_nm {n : Nat} : bindT (.nm n) t o ρ = if n < ρ.length then some (ρ.set n (some (t, if t.nl then .full else o))) else none := rfl
@[simp] theorem bindT_tp {ts} : bindT (.tp ts) (.tup xs) o ρ = bindTs ts xs (kidO o) ρ := rfl
@[simp] theorem bindTs_nil : bindTs [] [] o ρ = some ρ := rfl
@[simp] theorem bindTs_cons {g gs} : bindTs (g :: gs) (t :: xs) o ρ = (bindT g t o ρ).bind fun ρ' => bindTs gs xs o ρ' := rfl
@[simp] theorem tOf_ {v : Env → Option R} : tOf v ρ = (v ρ).bind fun r => (truth r.t).map fun k => (k, r.ρ) := rfl
@[simp] theorem iOf_ {v : Env → Option R} : iOf v ρ = (v ρ).bind fun ra => (reT ra.t ra.o ra.ρ).bind fun x => (itemsV x.1).map fun xs => (xs, x.2) := rfl
@[simp] theorem andV_1 {d} : andVals [d] ρ = d.v ρ := rfl
@[simp] theorem andT_1 {d} : andTs [d] ρ = d.t ρ := rfl
@[simp] theorem orV_1 {d} : orVals [d] ρ = d.v ρ := rfl
@[simp] theorem orT_1 {d} : orTs [d] ρ = d.t ρ := rfl
@[simp] theorem andV_2 {d d' ds} : andVals (d :: d' :: ds) ρ = (d.v ρ).bind fun r => match r.t with
    | .bl true => andVals (d' :: ds) r.ρ
    | .bl false => some ⟨.bl false, .full, r.ρ⟩
    | _ => none := rfl
@[simp] theorem orV_2 {d d' ds} : orVals (d :: d' :: ds) ρ = (d.v ρ).bind fun r => match r.t with
    | .bl false => orVals (d' :: ds) r.ρ
    | .bl true => some ⟨.bl true, .full, r.ρ⟩
    | _ => none := rfl
@[simp] theorem andT_2 {d d' ds} : andTs (d :: d' :: ds) ρ = (d.t ρ).bind fun k => if k.1 then andTs (d' :: ds) k.2 else some (false, k.2) := rfl
@[simp] theorem orT_2 {d d' ds} : orTs (d :: d' :: ds) ρ = (d.t ρ).bind fun k => if k.1 then some (true, k.2) else orTs (d' :: ds) k.2 := rfl
@[simp] theorem evO_nil : evO [] ρ = some (none, ρ) := rfl
@[simp] theorem evO_one {d} : evO [d] ρ = (d.v ρ).bind fun r => match r.t with
    | .int i => some (some i, r.ρ)
    | _ => none := rfl
@[simp] theorem startE_ {n : Nat} {ts : List T} : startE n ts = (ts.map fun t => some (t, if t.nl then .full else .cold)) ++ List.replicate (n - ts.length) none := rfl
@[simp] theorem forLoop_nil {b f} : forLoop b f [] ρ = some (.nx ρ) := rfl
@[simp] theorem lcLoop_nil {ow b ts e acc} : lcLoop ow b ts e [] acc o ρ = some (acc, o, wipeE ow ρ) := rfl
end
def finF : Fl → Option (T × Own)
  | .nx _ => some (.non, .full)
  | .rt t o => if o.isView then none else some (t, o)
  | _ => none
@[simp] theorem finF_nx {ρ} : finF (.nx ρ) = some (.non, .full) := rfl
@[simp] theorem finF_rt {t o} : finF (.rt t o) = if o.isView then none else some (t, o) := rfl
/-- a call, one step -/
theorem run1 {G : List Nat → Option T} {F : List Nat → Option Fn} {f : List Nat} {d : Fn} (hf : F f = some d) (n : Nat) (ts : List T) (hl : ts.length = d.np) : runN G F (n + 1) f ts = (exSs G (runN G F n) d.body (startE d.ns ts)).bind finF := by
  unfold runN
  rw [hf, Option.bind_some, if_pos hl]
  rfl
end Ev
namespace Ev
open PySem (sizeLine)
def t_fraction : Fn := ⟨2, 3, [.ite (.cmp .lt (.var 1) (.int 0)) [.par 0 1 (.neg (.mov 0)) (.neg (.mov 1))] [], .set 2 (.blt .gcd [.var 0, .var 1]), .ret (.tup [.bin .fdiv (.mov 0) (.var 2), .bin .fdiv (.mov 1) (.var 2)])]⟩
def t_two (f : List Nat) (op : BO) : Fn := ⟨2, 2, [.ret (.call f [.bin op (.bin .mul (.ix (.var 0) (.int 0)) (.ix (.var 1) (.int 1))) (.bin .mul (.ix (.var 1) (.int 0)) (.ix (.var 0) (.int 1))), .bin .mul (.ix (.var 0) (.int 1)) (.ix (.var 1) (.int 1))])]⟩
def b_common : List S := [.ite (.cmp .eq (.var 1) (.int 0)) [.ret (.mov 0)] [], .par 0 1 (.var 1) (.bin .mod (.blt .int [.mov 0]) (.var 1))]
def t_common : Fn := ⟨2, 3, [.set 0 (.blt .abs [.mov 0]), .set 1 (.blt .abs [.mov 1]), .for_ (.nm 2) (.rng [.int 900]) b_common, .ret (.mov 0)]⟩
def t_lfrac (c : List Nat) : Fn := ⟨2, 3, [.ite (.cmp .lt (.var 1) (.int 0)) [.set 0 (.bin .sub (.int 0) (.mov 0)), .set 1 (.bin .sub (.int 0) (.mov 1))] [], .set 2 (.call c [.var 0, .var 1]), .ret (.tup [.bin .fdiv (.mov 0) (.var 2), .bin .fdiv (.mov 1) (.var 2)])]⟩
/-- a fraction as both lay it -/
def fr (q : Rat) : T := .tup [.int q.num, .int q.den]
@[simp] theorem fr_nl {q} : (fr q).nl = true := rfl
/-- so many bits at most -/
def Sz (s : Nat) (q : Rat) : Prop := q.num.natAbs < 2 ^ s ∧ q.den < 2 ^ s
theorem log2_lt {n s : Nat} (h : n < 2 ^ s) (hs : 0 < s) : n.log2 < s := by
  by_cases h0 : n = 0
  · subst h0; simpa using hs
  · exact (Nat.log2_lt h0).mpr h
theorem gcd_log {a b s : Nat} (hb : 0 < b) (h : b < 2 ^ s) (hs : 0 < s) : (Nat.gcd a b).log2 < s :=
  log2_lt (Nat.lt_of_le_of_lt (Nat.gcd_le_right _ hb) h) hs
theorem Sz.mono {s t : Nat} {q : Rat} (h : Sz s q) (hs : s ≤ t) : Sz t q :=
  ⟨Nat.lt_of_lt_of_le h.1 (Nat.pow_le_pow_right (by decide) hs), Nat.lt_of_lt_of_le h.2 (Nat.pow_le_pow_right (by decide) hs)⟩
theorem natAbs_mul_lt {a b : Int} {s t : Nat} (ha : a.natAbs < 2 ^ s) (hb : b.natAbs < 2 ^ t) : (a * b).natAbs < 2 ^ (s + t) := by
  rw [Int.natAbs_mul, Nat.pow_add]
  exact Nat.mul_lt_mul'' ha hb
theorem natAbs_add_lt {a b : Int} {s : Nat} (ha : a.natAbs < 2 ^ s) (hb : b.natAbs < 2 ^ s) : (a + b).natAbs < 2 ^ (s + 1) := by
  have := Int.natAbs_add_le a b
  rw [Nat.pow_succ]; omega
theorem natAbs_sub_lt {a b : Int} {s : Nat} (ha : a.natAbs < 2 ^ s) (hb : b.natAbs < 2 ^ s) : (a - b).natAbs < 2 ^ (s + 1) := by
  have := Int.natAbs_sub_le a b
  rw [Nat.pow_succ]; omega
theorem mkRat_sz {n : Int} {d s : Nat} (hn : n.natAbs < 2 ^ s) (hd : d < 2 ^ s) (h0 : d ≠ 0) : Sz s (mkRat n d) := by
  constructor
  · rw [Rat.num_mkRat, if_neg h0]
    refine Nat.lt_of_le_of_lt ?_ hn
    rw [Int.natAbs_ediv_of_dvd (Int.ofNat_dvd_left.mpr (Nat.gcd_dvd_right _ _))]
    exact Nat.div_le_self _ _
  · rw [Rat.den_mkRat, if_neg h0]
    exact Nat.lt_of_le_of_lt (Nat.div_le_self _ _) hd
theorem Sz.add {s t : Nat} {p q : Rat} (hp : Sz s p) (hq : Sz t q) : Sz (s + t + 1) (p + q) := by
  rw [Rat.add_def']
  refine mkRat_sz ?_ ?_ (Nat.mul_ne_zero p.den_nz q.den_nz)
  · refine natAbs_add_lt (natAbs_mul_lt hp.1 (by simpa using hq.2)) ?_
    rw [Nat.add_comm s t]
    exact natAbs_mul_lt hq.1 (by simpa using hp.2)
  · have := Nat.mul_lt_mul'' hp.2 hq.2
    rw [← Nat.pow_add] at this
    exact Nat.lt_of_lt_of_le this (Nat.pow_le_pow_right (by decide) (by omega))
theorem Sz.sub {s t : Nat} {p q : Rat} (hp : Sz s p) (hq : Sz t q) : Sz (s + t + 1) (p - q) := by
  rw [Rat.sub_def']
  refine mkRat_sz ?_ ?_ (Nat.mul_ne_zero p.den_nz q.den_nz)
  · refine natAbs_sub_lt (natAbs_mul_lt hp.1 (by simpa using hq.2)) ?_
    rw [Nat.add_comm s t]
    exact natAbs_mul_lt hq.1 (by simpa using hp.2)
  · have := Nat.mul_lt_mul'' hp.2 hq.2
    rw [← Nat.pow_add] at this
    exact Nat.lt_of_lt_of_le this (Nat.pow_le_pow_right (by decide) (by omega))
theorem Sz.mul {s t : Nat} {p q : Rat} (hp : Sz s p) (hq : Sz t q) : Sz (s + t) (p * q) := by
  rw [Rat.mul_def']
  refine mkRat_sz (natAbs_mul_lt hp.1 hq.1) ?_ (Nat.mul_ne_zero p.den_nz q.den_nz)
  have := Nat.mul_lt_mul'' hp.2 hq.2
  rwa [← Nat.pow_add] at this
/-- the two numbers of a fraction over a divisor above 0 -/
theorem fr_pos {a : Int} {b : Nat} (hb : b ≠ 0) : (T.tup [.int (a / (Nat.gcd a.natAbs b : Nat)), .int ((b : Int) / (Nat.gcd a.natAbs b : Nat))]) = fr (mkRat a b) := by
  unfold fr
  rw [Rat.num_mkRat, Rat.den_mkRat, if_neg hb, if_neg hb, Nat.gcd_comm b]
  rfl
theorem divInt_neg {a : Int} {b : Int} (hb : b < 0) : Rat.divInt a b = mkRat (-a) b.natAbs := by
  have e : b = -((b.natAbs : Nat) : Int) := by omega
  rw [e, Rat.divInt_neg', Rat.divInt_ofNat]
  congr 1
  omega
theorem divInt_pos {a : Int} {b : Int} (hb : 0 < b) : Rat.divInt a b = mkRat a b.natAbs := by
  have e : b = ((b.natAbs : Nat) : Int) := by omega
  rw [e, Rat.divInt_ofNat]
  congr 1
section
variable {G : List Nat → Option T} {F : List Nat → Option Fn} {f c : List Nat}
theorem run_fraction (hf : F f = some t_fraction) {a b : Int} (hb : b ≠ 0) (hs : b.natAbs < 2 ^ 9000) (n : Nat) : runN G F (n + 1) f [.int a, .int b] = some (fr (Rat.divInt a b), .full) := by
  have hs' : (Nat.gcd a.natAbs b.natAbs).log2 < 9000 := gcd_log (by omega) hs (by decide)
  have hg : 0 < Nat.gcd a.natAbs b.natAbs := Nat.gcd_pos_of_pos_right _ (by omega)
  by_cases h : b < 0
  · rw [divInt_neg h, ← fr_pos (by omega)]
    have e : -b = ((b.natAbs : Nat) : Int) := by omega
    simp [runN, hf, t_fraction, h, hg, hs', le_size, e]
  · have hb' : 0 < b := by omega
    rw [divInt_pos hb', ← fr_pos (by omega)]
    have e : ((b.natAbs : Nat) : Int) = b := by omega
    simp [runN, hf, t_fraction, h, hg, hs', le_size, e]
theorem common_loop {C : List Nat → List T → Option (T × Own)} : ∀ (k : Nat) (xs : List T) (a b : Nat) (s : Slot), b < 2 ^ k → 2 * k + 1 ≤ xs.length → (∀ x ∈ xs, x.nl = true) →
    forLoop (fun x ρ => bindT (.nm 2) x .cold ρ) (exSs G C b_common) xs [some (.int a, .full), some (.int b, .full), s] = some (.rt (.int (Nat.gcd a b : Nat)) .full) := by
  have z : ∀ (x : T) (xs : List T) (a : Nat) (s : Slot), x.nl = true → forLoop (fun x ρ => bindT (.nm 2) x .cold ρ) (exSs G C b_common) (x :: xs) [some (.int a, .full), some (.int ((0 : Nat) : Int), .full), s] = some (.rt (.int a) .full) := by
    intro x xs a s hx
    simp [forLoop, b_common, hx]
  have nz : ∀ (x : T) (xs : List T) (a b : Nat) (s : Slot), x.nl = true → b ≠ 0 → forLoop (fun x ρ => bindT (.nm 2) x .cold ρ) (exSs G C b_common) (x :: xs) [some (.int a, .full), some (.int b, .full), s] =
      forLoop (fun x ρ => bindT (.nm 2) x .cold ρ) (exSs G C b_common) xs [some (.int b, .full), some (.int ((a % b : Nat) : Int), .full), some (x, .full)] := by
    intro x xs a b s hx hb
    have hb' : 0 < b := by omega
    simp [forLoop, b_common, hx, hb, hb']
  intro k
  induction k with
  | zero =>
    intro xs a b s hb hl hx
    have : b = 0 := by simpa using hb
    subst this
    cases xs with
    | nil => simp at hl
    | cons x xs => rw [z x xs a s (hx x (by simp))]; simp
  | succ k ih =>
    intro xs a b s hb hl hx
    match xs, hl, hx with
    | x :: y :: u :: xs, hl, hx =>
      by_cases h0 : b = 0
      · subst h0; rw [z x _ a s (hx x (by simp))]; simp
      · rw [nz x _ a b s (hx x (by simp)) h0]
        by_cases h1 : a % b = 0
        · rw [h1, z y _ b _ (hx y (by simp))]
          rw [Nat.gcd_comm, Nat.gcd_rec, h1]; simp
        · rw [nz y _ b (a % b) _ (hx y (by simp)) h1]
          have hlt : a % b < b := Nat.mod_lt _ (by omega)
          have h2 : b % (a % b) < 2 ^ k := by
            have h3 : b % (a % b) < a % b := Nat.mod_lt _ (by omega)
            have h4 : b % (a % b) + (a % b) ≤ b := by
              have := Nat.div_add_mod b (a % b)
              have h5 : 1 ≤ b / (a % b) := (Nat.one_le_div_iff (by omega)).mpr (by omega)
              have h6 : (a % b) * 1 ≤ (a % b) * (b / (a % b)) := Nat.mul_le_mul_left _ h5
              omega
            rw [Nat.pow_succ] at hb
            omega
          rw [ih (u :: xs) (a % b) (b % (a % b)) _ h2 (by simp at hl ⊢; omega) (fun x m => hx x (by simp only [List.mem_cons] at m ⊢; exact .inr (.inr m)))]
          congr 4
          rw [Nat.gcd_comm (a % b), ← Nat.gcd_rec, ← Nat.gcd_rec, Nat.gcd_comm]
theorem run_common (hc : F c = some t_common) {a b : Int} (hs : b.natAbs < 2 ^ 440) (n : Nat) : runN G F (n + 1) c [.int a, .int b] = some (.int (Nat.gcd a.natAbs b.natAbs : Nat), .full) := by
  have ea : (if a < 0 then -a else a) = ((a.natAbs : Nat) : Int) := by split <;> omega
  have eb : (if b < 0 then -b else b) = ((b.natAbs : Nat) : Int) := by split <;> omega
  have hl := common_loop (G := G) (C := runN G F n) 440 ((List.range 900).map fun i => T.int (i : Nat)) a.natAbs b.natAbs none hs (by simp) (fun x m => by
    obtain ⟨i, _, rfl⟩ := List.mem_map.mp m
    rfl)
  simp only [bindT_nm] at hl
  simp [runN, hc, t_common, ea, eb, rngV, hl]
theorem run_lfrac (hf : F f = some (t_lfrac c)) (hc : F c = some t_common) {a b : Int} (hb : b ≠ 0) (hs : b.natAbs < 2 ^ 440) (n : Nat) : runN G F (n + 2) f [.int a, .int b] = some (fr (Rat.divInt a b), .full) := by
  have hs' : (Nat.gcd a.natAbs b.natAbs).log2 < 9000 := gcd_log (s := 9000) (by omega) (Nat.lt_of_lt_of_le hs (Nat.pow_le_pow_right (by decide) (by decide))) (by decide)
  have hg : 0 < Nat.gcd a.natAbs b.natAbs := Nat.gcd_pos_of_pos_right _ (by omega)
  by_cases h : b < 0
  · have e : -b = ((b.natAbs : Nat) : Int) := by omega
    rw [divInt_neg h, ← fr_pos (by omega), ← e]
    have hcm := run_common (G := G) hc (a := -a) (b := -b) (by rw [Int.natAbs_neg]; exact hs) n
    rw [show n + 2 = (n + 1) + 1 from rfl, runN]
    simp [hf, t_lfrac, h, hg, hs', le_size, hcm]
  · have hb' : 0 < b := by omega
    rw [divInt_pos hb', ← fr_pos (by omega)]
    have e : ((b.natAbs : Nat) : Int) = b := by omega
    have hcm := run_common (G := G) hc (a := a) (b := b) hs n
    rw [show n + 2 = (n + 1) + 1 from rfl, runN]
    simp [hf, t_lfrac, h, hg, hs', le_size, hcm, e]
/-- what a maker of fractions promises, up to so many bits -/
def MkFr (G : List Nat → Option T) (F : List Nat → Option Fn) (n : Nat) (g : List Nat) (B : Nat) : Prop := ∀ a b : Int, b ≠ 0 → b.natAbs < 2 ^ B → runN G F n g [.int a, .int b] = some (fr (Rat.divInt a b), .full)
theorem mul_ok {a b : Int} {s t : Nat} (ha : a.natAbs < 2 ^ s) (hb : b.natAbs < 2 ^ t) (hs : 0 < s) (ht : 0 < t) (h : s + t ≤ 100000) : a.natAbs.log2 + b.natAbs.log2 < 1000000 := by
  have h1 := log2_lt ha hs
  have h2 := log2_lt hb ht
  omega
theorem two_args {p q : Rat} {s t : Nat} (hp : Sz s p) (hq : Sz t q) (hs : 0 < s) (ht : 0 < t) (h : s + t ≤ 100000) :
    (p.num.natAbs.log2 + (q.den : Int).natAbs.log2 < 1000000) ∧ (q.num.natAbs.log2 + (p.den : Int).natAbs.log2 < 1000000) ∧ ((p.den : Int).natAbs.log2 + (q.den : Int).natAbs.log2 < 1000000) :=
  ⟨mul_ok hp.1 (by simpa using hq.2) hs ht h, mul_ok hq.1 (by simpa using hp.2) ht hs (by omega), mul_ok (by simpa using hp.2) (by simpa using hq.2) hs ht h⟩
theorem den_ok {p q : Rat} {s t : Nat} (hp : Sz s p) (hq : Sz t q) {B : Nat} (h : s + t ≤ B) : ((p.den : Int) * q.den) ≠ 0 ∧ ((p.den : Int) * q.den).natAbs < 2 ^ B := by
  have e : ((p.den : Int) * q.den) = ((p.den * q.den : Nat) : Int) := by simp
  rw [e]
  refine ⟨by have := Nat.mul_ne_zero p.den_nz q.den_nz; omega, ?_⟩
  rw [Int.natAbs_natCast]
  have := Nat.mul_lt_mul'' hp.2 hq.2
  rw [← Nat.pow_add] at this
  exact Nat.lt_of_lt_of_le this (Nat.pow_le_pow_right (by decide) h)
theorem run_plus {g : List Nat} (hf : F f = some (t_two g .add)) {n B : Nat} (hg : MkFr G F n g B) {p q : Rat} {s t : Nat} (hp : Sz s p) (hq : Sz t q) (hs : 0 < s) (ht : 0 < t) (h : s + t ≤ B) (hB : B ≤ 100000) : runN G F (n + 1) f [fr p, fr q] = some (fr (p + q), .full) := by
  obtain ⟨h1, h2, h3⟩ := two_args hp hq hs ht (by omega)
  have h3' : p.den.log2 + q.den.log2 < 1000000 := by simpa using h3
  have h2' : q.num.natAbs.log2 + p.den.log2 < 1000000 := by simpa using h2
  have h1' : p.num.natAbs.log2 + q.den.log2 < 1000000 := by simpa using h1
  have hd := den_ok hp hq h
  have e := hg (p.num * q.den + q.num * p.den) (p.den * q.den) hd.1 hd.2
  have e2 : Rat.divInt (p.num * q.den + q.num * p.den) ((p.den : Int) * q.den) = p + q := by
    have e : ((p.den : Int) * q.den) = ((p.den * q.den : Nat) : Int) := by simp
    rw [e, Rat.divInt_ofNat, Rat.add_def']
  rw [e2] at e
  rw [runN]
  simp [hf, t_two, h1', h2', h3', fr] at e ⊢
  simp [e]
theorem run_minus {g : List Nat} (hf : F f = some (t_two g .sub)) {n B : Nat} (hg : MkFr G F n g B) {p q : Rat} {s t : Nat} (hp : Sz s p) (hq : Sz t q) (hs : 0 < s) (ht : 0 < t) (h : s + t ≤ B) (hB : B ≤ 100000) : runN G F (n + 1) f [fr p, fr q] = some (fr (p - q), .full) := by
  obtain ⟨h1, h2, h3⟩ := two_args hp hq hs ht (by omega)
  have h3' : p.den.log2 + q.den.log2 < 1000000 := by simpa using h3
  have h2' : q.num.natAbs.log2 + p.den.log2 < 1000000 := by simpa using h2
  have h1' : p.num.natAbs.log2 + q.den.log2 < 1000000 := by simpa using h1
  have hd := den_ok hp hq h
  have e := hg (p.num * q.den - q.num * p.den) (p.den * q.den) hd.1 hd.2
  have e2 : Rat.divInt (p.num * q.den - q.num * p.den) ((p.den : Int) * q.den) = p - q := by
    have e : ((p.den : Int) * q.den) = ((p.den * q.den : Nat) : Int) := by simp
    rw [e, Rat.divInt_ofNat, Rat.sub_def']
  rw [e2] at e
  rw [runN]
  simp [hf, t_two, h1', h2', h3', fr] at e ⊢
  simp [e]
theorem mkfr (hf : F f = some t_fraction) (n : Nat) : MkFr G F (n + 1) f 9000 := fun _ _ h1 h2 => run_fraction hf h1 h2 n
theorem mklfr (hf : F f = some (t_lfrac c)) (hc : F c = some t_common) (n : Nat) : MkFr G F (n + 2) f 440 := fun _ _ h1 h2 => run_lfrac hf hc h1 h2 n
end
end Ev
namespace Ev
open PySem (sizeLine)
section
variable {G : List Nat → Option T} {F : List Nat → Option Fn} {f c : List Nat}
def t_cell : Fn := ⟨2, 2, [.ite (.cmp .lt (.var 1) (.blt .len [.var 0])) [.ret (.blt .int [.ix (.mov 0) (.mov 1)])] [], .ret (.int 0)]⟩
theorem run_cell (hf : F f = some t_cell) (ns : List Int) (k n : Nat) : runN G F (n + 1) f [.lst (ns.map T.int), .int k] = some (.int (ns.getD k 0), .full) := by
  by_cases h : k < ns.length
  · have e : (ns.map T.int)[k]? = some (.int ns[k]) := by simp [h]
    have e2 : ns.getD k 0 = ns[k] := by simp [h]
    have h' : (k : Int) < ns.length := by omega
    simp [runN, hf, t_cell, h', h]
  · have e2 : ns.getD k 0 = 0 := by simp [List.getD_eq_getElem?_getD, List.getElem?_eq_none (by omega : ns.length ≤ k)]
    have h' : ¬ ((k : Int) < ns.length) := by omega
    simp [runN, hf, t_cell, h', List.getElem?_eq_none (by omega : ns.length ≤ k)]
def b_nums1 : List S := [.app 3 [] (.bin .mod (.blt .int [.var 0]) (.var 2)), .set 0 (.bin .fdiv (.blt .int [.mov 0]) (.var 2))]
def b_nums2 : List S := [.set 5 (.bin .mod (.blt .int [.bin .add (.bin .add (.bin .mul (.var 0) (.int 48271)) (.bin .mul (.var 4) (.int 69621))) (.int 7)]) (.int 2147483647)), .set 5 (.bin .mod (.blt .int [.bin .add (.bin .add (.bin .add (.bin .mul (.var 5) (.var 5)) (.bin .mul (.var 5) (.int 40692))) (.bin .mul (.mov 4) (.int 16807))) (.int 11)]) (.int 2147483399)), .app 3 [] (.bin .mod (.blt .int [.bin .fdiv (.mov 5) (.int 32)]) (.var 2))]
def e_big : E := .cmp .ge (.var 0) (.bin .pow (.int 10) (.int 18))
theorem big_t {C : List Nat → List T → Option (T × Own)} {ρ : Env} {o : Own} {cell : Int} : (den G C e_big).t (some (.int cell, o) :: ρ) = some (decide (1000000000000000000 ≤ cell), some (.int cell, o) :: ρ) := by
  have h : (some (.int cell, o) :: ρ)[0]? = some (some (.int cell, o)) := rfl
  have pw : binV .pow (.int 10) (.int 18) = some (.int 1000000000000000000) := by simp
  simp only [e_big, den_cmp, den_var, den_bin, den_int, valD_t, valD_v, valD_c, vo_f, h, T.nl_int, if_true, Option.bind_some, repOk_pow, shareR2_, pw, cmp_ge, Option.map_some, tOf_, truth_bl, Bool.or_self]
def t_numbersE (e : E) : Fn := ⟨3, 6, [.set 3 (.lst []), .ite e [.for_ (.nm 4) (.rng [.mov 1]) b_nums1, .ret (.mov 3)] [], .for_ (.nm 4) (.rng [.mov 1]) b_nums2, .ret (.mov 3)]⟩
theorem nums_loop1 {C : List Nat → List T → Option (T × Own)} {L : Int} (hL : 0 < L) (hL2 : L.natAbs.log2 < 9000) : ∀ (xs : List Nat) (acc : List Int) (cell : Int) (s1 s4 s5 : Slot), acc.length + xs.length ≤ 100000 → ∃ (ds : List Int) (cell' : Int) (s4' : Slot), ds.length = xs.length ∧ (∀ d ∈ ds, 0 ≤ d ∧ d < L) ∧
    forLoop (fun x ρ => bindT (.nm 4) x .cold ρ) (exSs G C b_nums1) (xs.map fun i => T.int (i : Nat)) [some (.int cell, .full), s1, some (.int L, .full), some (.lst (acc.map T.int), .full), s4, s5] =
      some (.nx [some (.int cell', .full), s1, some (.int L, .full), some (.lst ((acc ++ ds).map T.int), .full), s4', s5]) := by
  intro xs
  induction xs with
  | nil => intro acc cell s1 s4 s5 _; exact ⟨[], cell, s4, rfl, by simp, by simp⟩
  | cons x xs ih =>
    intro acc cell s1 s4 s5 h
    obtain ⟨ds, c', s4', h1, h2, h3⟩ := ih (acc ++ [cell % L]) (cell / L) s1 (some (.int (x : Nat), .full)) s5 (by simp at h ⊢; omega)
    refine ⟨cell % L :: ds, c', s4', by simp [h1], ?_, ?_⟩
    · intro d m
      rcases List.mem_cons.mp m with rfl | m
      · exact ⟨Int.emod_nonneg _ (by omega), Int.emod_lt_of_pos _ hL⟩
      · exact h2 d m
    · have hz : acc.length < sizeLine := lt_size (by simp at h; omega)
      have e : acc ++ (cell % L :: ds) = (acc ++ [cell % L]) ++ ds := by simp
      rw [e, ← h3]
      simp [forLoop, b_nums1, hL, hL2, hz]
theorem nums_loop2 {C : List Nat → List T → Option (T × Own)} {L : Int} (hL : 0 < L) : ∀ (xs : List Nat) (acc : List Int) (cell : Int) (s1 s4 s5 : Slot), acc.length + xs.length ≤ 100000 → (∀ x ∈ xs, x ≤ 1000000) → ∃ (ds : List Int) (s4' s5' : Slot), ds.length = xs.length ∧ (∀ d ∈ ds, 0 ≤ d ∧ d < L) ∧
    forLoop (fun x ρ => bindT (.nm 4) x .cold ρ) (exSs G C b_nums2) (xs.map fun i => T.int (i : Nat)) [some (.int cell, .full), s1, some (.int L, .full), some (.lst (acc.map T.int), .full), s4, s5] =
      some (.nx [some (.int cell, .full), s1, some (.int L, .full), some (.lst ((acc ++ ds).map T.int), .full), s4', s5']) := by
  intro xs
  induction xs with
  | nil => intro acc cell s1 s4 s5 _ _; exact ⟨[], s4, s5, rfl, by simp, by simp⟩
  | cons x xs ih =>
    intro acc cell s1 s4 s5 h hx
    let m1 : Int := (cell * 48271 + (x : Int) * 69621 + 7) % 2147483647
    let m2 : Int := (m1 * m1 + m1 * 40692 + (x : Int) * 16807 + 11) % 2147483399
    obtain ⟨ds, s4', s5', h1, h2, h3⟩ := ih (acc ++ [m2 / 32 % L]) cell s1 (some (.int (x : Nat), .full)) (some (.int m2, .full)) (by simp at h ⊢; omega) (fun y m => hx y (by simp [m]))
    refine ⟨m2 / 32 % L :: ds, s4', s5', by simp [h1], ?_, ?_⟩
    · intro d m
      rcases List.mem_cons.mp m with rfl | m
      · exact ⟨Int.emod_nonneg _ (by omega), Int.emod_lt_of_pos _ hL⟩
      · exact h2 d m
    · have hz : acc.length < sizeLine := lt_size (by simp at h; omega)
      have e : acc ++ (m2 / 32 % L :: ds) = (acc ++ [m2 / 32 % L]) ++ ds := by simp
      rw [e, ← h3]
      have b1 : 0 ≤ m1 ∧ m1 < 2147483647 := ⟨Int.emod_nonneg _ (by decide), Int.emod_lt_of_pos _ (by decide)⟩
      have c1 : m1.natAbs < 18446744073709551616 := by omega
      have l32 : (32 : Nat).log2 < 9000 := by decide
      simp only [m1] at c1
      simp [forLoop, b_nums2, hL, hz, c1, l32, m2, m1]
def t_numbers : Fn := t_numbersE e_big
theorem run_numbersE {e : E} {B : Int} (he : ∀ (C : List Nat → List T → Option (T × Own)) (o : Own) (cell : Int) (ρ : Env), (den G C e).t (some (.int cell, o) :: ρ) = some (decide (B ≤ cell), some (.int cell, o) :: ρ)) (hf : F f = some (t_numbersE e)) {L : Int} (hL : 0 < L) (hL2 : L.natAbs.log2 < 9000) (cell : Int) {c : Nat} (hc : c ≤ 10000) (n : Nat) : ∃ ds : List Int, ds.length = c ∧ (∀ d ∈ ds, 0 ≤ d ∧ d < L) ∧ runN G F (n + 1) f [.int cell, .int c, .int L] = some (.lst (ds.map T.int), .full) := by
  have hr : rngV [.int (c : Int)] = some ((List.range c).map fun i => T.int (i : Nat)) := rng_n (by omega)
  by_cases h : B ≤ cell
  · obtain ⟨ds, c', s4', h1, h2, h3⟩ := nums_loop1 (G := G) (C := runN G F n) hL hL2 (List.range c) [] cell (some (.int c, .full)) none none (by simp; omega)
    refine ⟨ds, by simpa using h1, h2, ?_⟩
    simp only [bindT_nm, List.map_nil, List.nil_append] at h3
    simp [runN, hf, t_numbersE, he, h, hr, h3, le_size]
  · obtain ⟨ds, s4', s5', h1, h2, h3⟩ := nums_loop2 (G := G) (C := runN G F n) hL (List.range c) [] cell (some (.int c, .full)) none none (by simp; omega) (fun x m => by have := List.mem_range.mp m; omega)
    refine ⟨ds, by simpa using h1, h2, ?_⟩
    simp only [bindT_nm, List.map_nil, List.nil_append] at h3
    simp [runN, hf, t_numbersE, he, h, hr, h3, le_size]
theorem run_numbers (hf : F f = some t_numbers) {L : Int} (hL : 0 < L) (hL2 : L.natAbs.log2 < 9000) (cell : Int) {c : Nat} (hc : c ≤ 10000) (n : Nat) : ∃ ds : List Int, ds.length = c ∧ (∀ d ∈ ds, 0 ≤ d ∧ d < L) ∧ runN G F (n + 1) f [.int cell, .int c, .int L] = some (.lst (ds.map T.int), .full) :=
  run_numbersE (e := e_big) (fun C o cell ρ => big_t) hf hL hL2 cell hc n
end
end Ev
namespace Ev
open PySem (sizeLine)
theorem forLoop_inv {b : T → Env → Option Env} {f : Env → Option Fl} : ∀ (xs : List T) (P : Nat → Env → Prop) (i : Nat) (ρ : Env), P i ρ →
    (∀ j x ρ, xs[j]? = some x → P (i + j) ρ → ∃ ρ1 ρ2, b x ρ = some ρ1 ∧ (f ρ1 = some (.nx ρ2) ∨ f ρ1 = some (.ct ρ2)) ∧ P (i + j + 1) ρ2) → ∃ ρ', forLoop b f xs ρ = some (.nx ρ') ∧ P (i + xs.length) ρ'
  | [], P, i, ρ, h0, _ => ⟨ρ, rfl, h0⟩
  | x :: xs, P, i, ρ, h0, step => by
    obtain ⟨ρ1, ρ2, e1, e2, h1⟩ := step 0 x ρ rfl h0
    obtain ⟨ρ', e3, h3⟩ := forLoop_inv xs P (i + 1) ρ2 h1 (fun j y ρ e h => by
      obtain ⟨r1, r2, q1, q2, q3⟩ := step (j + 1) y ρ (by simpa using e) (by rw [← Nat.add_assoc, Nat.add_right_comm]; exact h)
      exact ⟨r1, r2, q1, q2, by rw [Nat.add_right_comm i 1 j, Nat.add_assoc i j 1]; rw [← Nat.add_assoc] at q3; rwa [Nat.add_assoc i j 1] at q3⟩)
    refine ⟨ρ', ?_, ?_⟩
    · unfold forLoop
      rw [e1, Option.bind_some]
      rcases e2 with e2 | e2 <;> (rw [e2, Option.bind_some]; exact e3)
    · rw [List.length_cons, Nat.add_comm xs.length 1, ← Nat.add_assoc]; exact h3
/-- a walk from the first item -/
theorem for0 {b : T → Env → Option Env} {f : Env → Option Fl} (xs : List T) (P : Nat → Env → Prop) {ρ : Env} (h0 : P 0 ρ)
    (step : ∀ j x ρ, xs[j]? = some x → P j ρ → ∃ ρ1 ρ2, b x ρ = some ρ1 ∧ (f ρ1 = some (.nx ρ2) ∨ f ρ1 = some (.ct ρ2)) ∧ P (j + 1) ρ2) : ∃ ρ', forLoop b f xs ρ = some (.nx ρ') ∧ P xs.length ρ' := by
  obtain ⟨ρ', e, h⟩ := forLoop_inv xs P 0 ρ h0 (fun j x ρ e h => by
    rw [Nat.zero_add] at h ⊢
    exact step j x ρ e h)
  exact ⟨ρ', e, by simpa using h⟩
/-- a comprehension without a test whose items are one's own -/
theorem lc_inv {own : List Nat} {b : T → Env → Option Env} {e : Env → Option R} : ∀ (xs ys : List T) (P : Env → Prop) (acc : List T) (ρ : Env), xs.length = ys.length → acc.length + xs.length ≤ 100000 → P ρ →
    (∀ (j : Nat) (x y : T) (ρ : Env), xs[j]? = some x → ys[j]? = some y → P ρ → ∃ ρ1 ρ2, b x (wipeE own ρ) = some ρ1 ∧ e ρ1 = some ⟨y, .full, ρ2⟩ ∧ P ρ2) →
    ∃ ρ', lcLoop own b (fun ρ => some (true, ρ)) e xs acc .full ρ = some (acc ++ ys, .full, wipeE own ρ') ∧ P ρ'
  | [], [], P, acc, ρ, _, _, h0, _ => ⟨ρ, by simp, h0⟩
  | [], _ :: _, _, _, _, h, _, _, _ => by simp at h
  | _ :: _, [], _, _, _, h, _, _, _ => by simp at h
  | x :: xs, y :: ys, P, acc, ρ, hl, hz, h0, step => by
    obtain ⟨ρ1, ρ2, e1, e2, h1⟩ := step 0 x y ρ rfl rfl h0
    obtain ⟨ρ', e3, h3⟩ := lc_inv xs ys P (acc ++ [y]) ρ2 (by simpa using hl) (by simp at hz ⊢; omega) h1 (fun j x y ρ q1 q2 h => step (j + 1) x y ρ (by simpa using q1) (by simpa using q2) h)
    refine ⟨ρ', ?_, h3⟩
    unfold lcLoop
    have : acc.length < sizeLine := lt_size (by simp at hz; omega)
    simp [e1, e2, this, e3]
def b_same (f : List Nat) : List S := [.ite (.notv (.call f [.ix (.var 0) (.var 2), .ix (.var 1) (.var 2)])) [.ret (.bl false)] []]
def t_same (f : List Nat) : Fn := ⟨2, 3, [.ite (.isi (.var 1) .list) [.ite (.orv [.notv (.isi (.var 0) .list), .cmp .ne (.blt .len [.var 0]) (.blt .len [.var 1])]) [.ret (.bl false)] []] [.ite (.isi (.var 1) .tuple) [.ite (.orv [.notv (.isi (.var 0) .tuple), .cmp .ne (.blt .len [.var 0]) (.blt .len [.var 1])]) [.ret (.bl false)] []] [.ite (.cmp .is (.var 1) (.non)) [.ret (.cmp .is (.mov 0) (.non))] [.ite (.isi (.var 1) .bool) [.ret (.andv [.isi (.var 0) .bool, .cmp .eq (.var 0) (.mov 1)])] [.ite (.isi (.var 1) .int) [.ret (.andv [.isi (.var 0) .int, .notv (.isi (.var 0) .bool), .cmp .eq (.var 0) (.mov 1)])] [.ret (.andv [.isi (.var 0) .str, .cmp .eq (.var 0) (.mov 1)])]]]]], .for_ (.nm 2) (.rng [.blt .len [.var 1]]) (b_same f), .ret (.bl true)]⟩
/-- data so deep -/
inductive Dat : Nat → T → Prop
  | non {d} : Dat d .non
  | bl {d b} : Dat d (.bl b)
  | int {d i} : Dat d (.int i)
  | str {d s} : Dat d (.str s)
  | tup {d xs} : xs.length ≤ 100000 → (∀ x ∈ xs, Dat d x) → Dat (d + 1) (.tup xs)
  | lst {d xs} : xs.length ≤ 100000 → (∀ x ∈ xs, Dat d x) → Dat (d + 1) (.lst xs)
def kO (t : T) : Own := if t.nl then .full else .cold
theorem same_loop {G : List Nat → Option T} {C : List Nat → List T → Option (T × Own)} {f : List Nat} {t : T} {xs : List T} (ht : t = .lst xs ∨ t = .tup xs) (hz : xs.length ≤ 100000) (hC : ∀ x ∈ xs, C f [x, x] = some (.bl true, .full)) (s : Slot) :
    ∃ s', forLoop (fun x ρ => bindT (.nm 2) x .cold ρ) (exSs G C (b_same f)) ((List.range xs.length).map fun i => T.int (i : Nat)) [some (t, kO t), some (t, kO t), s] = some (.nx [some (t, kO t), some (t, kO t), s']) := by
  obtain ⟨ρ', e, s', rfl⟩ := for0 (b := fun x ρ => bindT (.nm 2) x .cold ρ) (f := exSs G C (b_same f)) ((List.range xs.length).map fun i => T.int (i : Nat)) (fun _ ρ => ∃ s', ρ = [some (t, kO t), some (t, kO t), s']) ⟨s, rfl⟩ (fun j x ρ hx hP => by
    obtain ⟨s', rfl⟩ := hP
    rw [List.getElem?_map] at hx
    obtain ⟨j', hj, rfl⟩ := Option.map_eq_some_iff.mp hx
    have hlt : j < xs.length := by
      have := (List.getElem?_eq_some_iff.mp hj).1
      simpa using this
    have ej : j' = j := by
      rw [List.getElem?_range hlt] at hj
      exact (Option.some.inj hj).symm
    subst ej
    have hc := hC xs[j'] (List.getElem_mem _)
    have hg : xs[j']? = some xs[j'] := List.getElem?_eq_getElem hlt
    refine ⟨[some (t, kO t), some (t, kO t), some (.int (j' : Nat), .full)], [some (t, kO t), some (t, kO t), some (.int (j' : Nat), .full)], by simp, .inl ?_, _, rfl⟩
    have hv : ∀ (i : Nat) (_ : i = 0 ∨ i = 1), ((den G C (.ix (.var i) (.var 2))).v [some (t, kO t), some (t, kO t), some (.int (j' : Nat), .full)]) = some ⟨xs[j'], if xs[j'].nl then .full else .cold, [some (t, kO t), some (t, kO t), some (.int (j' : Nat), .full)]⟩ := by
      intro i hi
      rcases ht with rfl | rfl <;> rcases hi with rfl | rfl <;> cases hn : xs[j'].nl <;> cases hm : nlL xs <;> simp [hg, hn, hm, kO]
    have h0 := hv 0 (.inl rfl)
    have h1 := hv 1 (.inr rfl)
    unfold b_same
    rw [exSs_cons, exS_ite, den_notv, tstD_t, den_call, valD_t, tOf_, denL_cons, denL_cons, denL_nil, evV_cons, h0]
    have hc1 : (den G C (.ix (.var 1) (.var 2))).c = false := rfl
    simp only [Option.bind_some, anyC_cons, anyC_nil, hc1, Bool.or_false, vo_f, evV_cons, evV_nil, h1]
    cases hn : xs[j'].nl <;> simp [hc])
  exact ⟨s', e⟩
theorem same_refl {G : List Nat → Option T} {F : List Nat → Option Fn} {f : List Nat} (hf : F f = some (t_same f)) : ∀ (d : Nat) (t : T), Dat d t → ∀ n, runN G F (n + d + 1) f [t, t] = some (.bl true, .full)
  | d, .non, _, n => by rw [run1 hf _ _ rfl]; simp [t_same, isiV]
  | d, .bl b, _, n => by rw [run1 hf _ _ rfl]; simp [t_same, isiV, cmp_eq, T.depLe, eqT]
  | d, .int i, _, n => by rw [run1 hf _ _ rfl]; simp [t_same, isiV]
  | d, .str s, _, n => by rw [run1 hf _ _ rfl]; simp [t_same, isiV]
  | d + 1, .lst xs, h, n => by
    cases h with
    | lst hz hx =>
      obtain ⟨s', e⟩ := same_loop (G := G) (C := runN G F (n + (d + 1))) (f := f) (t := .lst xs) (.inl rfl) hz (fun x m => same_refl hf d x (hx x m) n) none
      have hr := rng_n (n := xs.length) (by omega)
      simp only [bindT_nm] at e
      simp [kO] at e
      rw [run1 hf _ _ rfl]; simp [t_same, isiV, hr, e]
  | d + 1, .tup xs, h, n => by
    cases h with
    | tup hz hx =>
      obtain ⟨s', e⟩ := same_loop (G := G) (C := runN G F (n + (d + 1))) (f := f) (t := .tup xs) (.inr rfl) hz (fun x m => same_refl hf d x (hx x m) n) none
      have hr := rng_n (n := xs.length) (by omega)
      simp only [bindT_nm] at e
      simp [kO] at e
      rw [run1 hf _ _ rfl]
      cases hn : nlL xs <;> simp [hn] at e <;> simp [t_same, isiV, hr, hn, e]
  | 0, .lst _, h, _ => by cases h
  | 0, .tup _, h, _ => by cases h
  | _, .dct _ _, h, _ => by cases h
  | _, .obj _ _ _, h, _ => by cases h
end Ev
namespace K68
open PySem L2 Ev
def n_fraction : List Nat := [102, 114, 97, 99, 116, 105, 111, 110]
def n_plus : List Nat := [112, 108, 117, 115]
def n_coins_of : List Nat := [99, 111, 105, 110, 115, 95, 111, 102]
def n__law_cell : List Nat := [95, 108, 97, 119, 95, 99, 101, 108, 108]
def n__law_numbers : List Nat := [95, 108, 97, 119, 95, 110, 117, 109, 98, 101, 114, 115]
def n__law_common : List Nat := [95, 108, 97, 119, 95, 99, 111, 109, 109, 111, 110]
def n__law_frac : List Nat := [95, 108, 97, 119, 95, 102, 114, 97, 99]
def n__law_plus : List Nat := [95, 108, 97, 119, 95, 112, 108, 117, 115]
def n__law_minus : List Nat := [95, 108, 97, 119, 95, 109, 105, 110, 117, 115]
def n__law_same : List Nat := [95, 108, 97, 119, 95, 115, 97, 109, 101]
def n_law : List Nat := [108, 97, 119]
-- fraction: ['top', 'bottom', 'common']
def f_fraction : Fn := ⟨2, 3, [.ite (.cmp .lt (.var 1) (.int 0)) [.par 0 1 (.neg (.mov 0)) (.neg (.mov 1))] [], .set 2 (.blt .gcd [.var 0, .var 1]), .ret (.tup [.bin .fdiv (.mov 0) (.var 2), .bin .fdiv (.mov 1) (.var 2)])]⟩
-- plus: ['one', 'other']
def f_plus : Fn := ⟨2, 2, [.ret (.call [102, 114, 97, 99, 116, 105, 111, 110] [.bin .add (.bin .mul (.ix (.var 0) (.int 0)) (.ix (.var 1) (.int 1))) (.bin .mul (.ix (.var 1) (.int 0)) (.ix (.var 0) (.int 1))), .bin .mul (.ix (.var 0) (.int 1)) (.ix (.var 1) (.int 1))])]⟩
-- coins_of: ['bill', 'found', 'total', 'paid', 'amount', 'later']
def f_coins_of : Fn := ⟨1, 6, [.set 1 (.lst []), .set 2 (.glob [90, 69, 82, 79]), .set 3 (.int 0), .for_ (.nm 4) (.mov 0) [.set 2 (.call [112, 108, 117, 115] [.mov 2, .mov 4]), .set 5 (.bin .fdiv (.ix (.var 2) (.int 0)) (.ix (.var 2) (.int 1))), .app 1 [] (.bin .sub (.var 5) (.mov 3)), .set 3 (.mov 5)], .ret (.mov 1)]⟩
-- _law_cell: ['script', 'k']
def f__law_cell : Fn := ⟨2, 2, [.ite (.cmp .lt (.var 1) (.blt .len [.var 0])) [.ret (.blt .int [.ix (.mov 0) (.mov 1)])] [], .ret (.int 0)]⟩
-- _law_numbers: ['cell', 'count', 'limit', 'found', 'k', 'mixed']
def f__law_numbers : Fn := ⟨3, 6, [.set 3 (.lst []), .ite (.cmp .ge (.var 0) (.bin .pow (.int 10) (.int 18))) [.for_ (.nm 4) (.rng [.mov 1]) [.app 3 [] (.bin .mod (.blt .int [.var 0]) (.var 2)), .set 0 (.bin .fdiv (.blt .int [.mov 0]) (.var 2))], .ret (.mov 3)] [], .for_ (.nm 4) (.rng [.mov 1]) [.set 5 (.bin .mod (.blt .int [.bin .add (.bin .add (.bin .mul (.var 0) (.int 48271)) (.bin .mul (.var 4) (.int 69621))) (.int 7)]) (.int 2147483647)), .set 5 (.bin .mod (.blt .int [.bin .add (.bin .add (.bin .add (.bin .mul (.var 5) (.var 5)) (.bin .mul (.var 5) (.int 40692))) (.bin .mul (.mov 4) (.int 16807))) (.int 11)]) (.int 2147483399)), .app 3 [] (.bin .mod (.blt .int [.bin .fdiv (.mov 5) (.int 32)]) (.var 2))], .ret (.mov 3)]⟩
-- _law_common: ['one', 'other', 'turn']
def f__law_common : Fn := ⟨2, 3, [.set 0 (.blt .abs [.mov 0]), .set 1 (.blt .abs [.mov 1]), .for_ (.nm 2) (.rng [.int 900]) [.ite (.cmp .eq (.var 1) (.int 0)) [.ret (.mov 0)] [], .par 0 1 (.var 1) (.bin .mod (.blt .int [.mov 0]) (.var 1))], .ret (.mov 0)]⟩
-- _law_frac: ['top', 'bottom', 'common']
def f__law_frac : Fn := ⟨2, 3, [.ite (.cmp .lt (.var 1) (.int 0)) [.set 0 (.bin .sub (.int 0) (.mov 0)), .set 1 (.bin .sub (.int 0) (.mov 1))] [], .set 2 (.call [95, 108, 97, 119, 95, 99, 111, 109, 109, 111, 110] [.var 0, .var 1]), .ret (.tup [.bin .fdiv (.mov 0) (.var 2), .bin .fdiv (.mov 1) (.var 2)])]⟩
-- _law_plus: ['one', 'other']
def f__law_plus : Fn := ⟨2, 2, [.ret (.call [95, 108, 97, 119, 95, 102, 114, 97, 99] [.bin .add (.bin .mul (.ix (.var 0) (.int 0)) (.ix (.var 1) (.int 1))) (.bin .mul (.ix (.var 1) (.int 0)) (.ix (.var 0) (.int 1))), .bin .mul (.ix (.var 0) (.int 1)) (.ix (.var 1) (.int 1))])]⟩
-- _law_minus: ['one', 'other']
def f__law_minus : Fn := ⟨2, 2, [.ret (.call [95, 108, 97, 119, 95, 102, 114, 97, 99] [.bin .sub (.bin .mul (.ix (.var 0) (.int 0)) (.ix (.var 1) (.int 1))) (.bin .mul (.ix (.var 1) (.int 0)) (.ix (.var 0) (.int 1))), .bin .mul (.ix (.var 0) (.int 1)) (.ix (.var 1) (.int 1))])]⟩
-- _law_same: ['told', 'due', 'k']
def f__law_same : Fn := ⟨2, 3, [.ite (.isi (.var 1) .list) [.ite (.orv [.notv (.isi (.var 0) .list), .cmp .ne (.blt .len [.var 0]) (.blt .len [.var 1])]) [.ret (.bl false)] []] [.ite (.isi (.var 1) .tuple) [.ite (.orv [.notv (.isi (.var 0) .tuple), .cmp .ne (.blt .len [.var 0]) (.blt .len [.var 1])]) [.ret (.bl false)] []] [.ite (.cmp .is (.var 1) (.non)) [.ret (.cmp .is (.mov 0) (.non))] [.ite (.isi (.var 1) .bool) [.ret (.andv [.isi (.var 0) .bool, .cmp .eq (.var 0) (.mov 1)])] [.ite (.isi (.var 1) .int) [.ret (.andv [.isi (.var 0) .int, .notv (.isi (.var 0) .bool), .cmp .eq (.var 0) (.mov 1)])] [.ret (.andv [.isi (.var 0) .str, .cmp .eq (.var 0) (.mov 1)])]]]]], .for_ (.nm 2) (.rng [.blt .len [.var 1]]) [.ite (.notv (.call [95, 108, 97, 119, 95, 115, 97, 109, 101] [.ix (.var 0) (.var 2), .ix (.var 1) (.var 2)])) [.ret (.bl false)] []], .ret (.bl true)]⟩
-- law: ['script', 'draws', 'bill', 'k', 'bottom', 'kept', 'sums', 'amount', 'wholes', 'due', 'turn', 'told', 'coins', 'i', 'j', 'away', 'top']
def f_law : Fn := ⟨1, 17, [.set 1 (.call [95, 108, 97, 119, 95, 110, 117, 109, 98, 101, 114, 115] [.call [95, 108, 97, 119, 95, 99, 101, 108, 108] [.mov 0, .int 0], .int 30, .int 1000001]), .set 2 (.lst []), .for_ (.nm 3) (.rng [.bin .mod (.ix (.var 1) (.int 0)) (.int 13)]) [.set 4 (.bin .add (.int 1) (.bin .mod (.ix (.var 1) (.bin .add (.int 1) (.bin .mul (.int 2) (.var 3)))) (.int 40))), .app 2 [] (.call [95, 108, 97, 119, 95, 102, 114, 97, 99] [.bin .mod (.ix (.var 1) (.bin .add (.int 2) (.bin .mul (.int 2) (.var 3)))) (.ix (.lst [.int 1, .int 60, .int 1000001]) (.bin .mod (.bin .fdiv (.ix (.var 1) (.bin .add (.int 1) (.bin .mul (.int 2) (.var 3)))) (.int 40)) (.int 3))), .ix (.lst [.int 1, .mov 4]) (.bin .mod (.ix (.var 1) (.int 27)) (.int 2))])], .set 5 (.blt .list [.var 2]), .set 6 (.lst [.tup [.int 0, .int 1]]), .for_ (.nm 7) (.var 2) [.app 6 [] (.call [95, 108, 97, 119, 95, 112, 108, 117, 115] [.ix (.var 6) (.bin .sub (.blt .len [.var 6]) (.int 1)), .mov 7])], .setc 8 (.bin .fdiv (.var 16) (.var 4)) (.tp [(.nm 16), (.nm 4)]) (.var 6) [] [16, 4], .setc 9 (.bin .sub (.ix (.var 8) (.bin .add (.var 3) (.int 1))) (.ix (.var 8) (.var 3))) (.nm 3) (.rng [.blt .len [.var 2]]) [] [3], .for_ (.nm 10) (.rng [.int 2]) [.set 11 (.call [99, 111, 105, 110, 115, 95, 111, 102] [.var 2]), .ite (.orv [.notv (.call [95, 108, 97, 119, 95, 115, 97, 109, 101] [.var 11, .var 9]), .cmp .ne (.var 2) (.var 5)]) [.ret (.bl false)] [], .app 11 [] (.int 0)], .set 12 (.call [99, 111, 105, 110, 115, 95, 111, 102] [.var 2]), .for_ (.nm 13) (.rng [.blt .len [.var 2]]) [.ite (.cmp .lt (.ix (.var 12) (.var 13)) (.int 0)) [.ret (.bl false)] [], .for_ (.nm 14) (.rng [.var 13, .blt .len [.var 2]]) [.set 15 (.call [95, 108, 97, 119, 95, 109, 105, 110, 117, 115] [.tup [.blt .sum [.sl (.var 12) [.var 13] [.bin .add (.var 14) (.int 1)]], .int 1], .call [95, 108, 97, 119, 95, 109, 105, 110, 117, 115] [.ix (.var 6) (.bin .add (.var 14) (.int 1)), .ix (.var 6) (.var 13)]]), .ite (.cmp .ge (.blt .abs [.ix (.var 15) (.int 0)]) (.ix (.var 15) (.int 1))) [.ret (.bl false)] []]], .ret (.cmp .eq (.blt .sum [.mov 12]) (.ix (.mov 8) (.blt .len [.mov 2])))]⟩
def tab : List (List Nat × Fn) := [(n_fraction, f_fraction), (n_plus, f_plus), (n_coins_of, f_coins_of), (n__law_cell, f__law_cell), (n__law_numbers, f__law_numbers), (n__law_common, f__law_common), (n__law_frac, f__law_frac), (n__law_plus, f__law_plus), (n__law_minus, f__law_minus), (n__law_same, f__law_same), (n_law, f_law)]
def v_ZERO : T := .tup [.int 0, .int 1]
def con : List (List Nat × T) := [([90, 69, 82, 79], v_ZERO)]
abbrev run (n : Nat) (f : List Nat) (ts : List T) : Option (T × Own) := runN (tabG con) (tabF tab) n f ts
end K68
namespace K68
open Ev
open PySem (sizeLine)
theorem tab_fraction : tabF tab n_fraction = some t_fraction := rfl
theorem tab_plus : tabF tab n_plus = some (t_two n_fraction .add) := rfl
theorem tab_coins : tabF tab n_coins_of = some f_coins_of := rfl
theorem tab_cell : tabF tab n__law_cell = some t_cell := rfl
theorem tab_numbers : tabF tab n__law_numbers = some t_numbers := rfl
theorem tab_common : tabF tab n__law_common = some t_common := rfl
theorem tab_lfrac : tabF tab n__law_frac = some (t_lfrac n__law_common) := rfl
theorem tab_lplus : tabF tab n__law_plus = some (t_two n__law_frac .add) := rfl
theorem tab_lminus : tabF tab n__law_minus = some (t_two n__law_frac .sub) := rfl
theorem tab_same : tabF tab n__law_same = some f__law_same := rfl
theorem tab_law : tabF tab n_law = some f_law := rfl
/-- the sum of the first j -/
def S (qs : List Rat) (j : Nat) : Rat := (qs.take j).sum
def fl (q : Rat) : Int := q.num / (q.den : Int)
def coins (qs : List Rat) : List Int := (List.range qs.length).map fun j => fl (S qs (j + 1)) - fl (S qs j)
theorem S_succ {qs : List Rat} {j : Nat} {q : Rat} (h : qs[j]? = some q) : S qs (j + 1) = S qs j + q := by
  unfold S
  rw [List.take_add_one, h]
  simp [List.sum_append, Rat.add_zero]
/-- the amounts of a bill -/
structure Bill (qs : List Rat) : Prop where
  len : qs.length ≤ 12
  nn : ∀ q ∈ qs, 0 ≤ q
  sz2 : ∀ q ∈ qs, q.num.natAbs < 2 ^ 20 ∧ q.den < 2 ^ 6
theorem Bill.sz {qs : List Rat} (B : Bill qs) (q : Rat) (m : q ∈ qs) : Sz 20 q := ⟨(B.sz2 q m).1, Nat.lt_of_lt_of_le (B.sz2 q m).2 (by decide)⟩
theorem mkRat_sz2 {n : Int} {d s t : Nat} (hn : n.natAbs < 2 ^ s) (hd : d < 2 ^ t) (h0 : d ≠ 0) : (mkRat n d).num.natAbs < 2 ^ s ∧ (mkRat n d).den < 2 ^ t := by
  constructor
  · rw [Rat.num_mkRat, if_neg h0]
    refine Nat.lt_of_le_of_lt ?_ hn
    rw [Int.natAbs_ediv_of_dvd (Int.ofNat_dvd_left.mpr (Nat.gcd_dvd_right _ _))]
    exact Nat.div_le_self _ _
  · rw [Rat.den_mkRat, if_neg h0]
    exact Nat.lt_of_le_of_lt (Nat.div_le_self _ _) hd
theorem S_sz2 {qs : List Rat} (B : Bill qs) : ∀ j, j ≤ qs.length → (S qs j).num.natAbs < 2 ^ (7 * j + 22) ∧ (S qs j).den < 2 ^ (6 * j + 1)
  | 0, _ => by
    have e : S qs 0 = 0 := by simp [S]
    rw [e]
    exact ⟨by decide, by decide⟩
  | j + 1, h => by
    have e : qs[j]? = some qs[j] := List.getElem?_eq_getElem (by omega)
    obtain ⟨h1, h2⟩ := S_sz2 B j (by omega)
    obtain ⟨h3, h4⟩ := B.sz2 qs[j] (List.getElem_mem _)
    rw [S_succ e, Rat.add_def']
    refine mkRat_sz2 ?_ ?_ (Nat.mul_ne_zero (S qs j).den_nz (qs[j]).den_nz)
    · have d4 : ((qs[j]).den : Int).natAbs < 2 ^ 6 := by rw [Int.natAbs_natCast]; exact h4
      have d2 : ((S qs j).den : Int).natAbs < 2 ^ (6 * j + 1) := by rw [Int.natAbs_natCast]; exact h2
      have a1 := natAbs_mul_lt h1 d4
      have a2 := natAbs_mul_lt h3 d2
      have a1' := Nat.lt_of_lt_of_le a1 (Nat.pow_le_pow_right (show 0 < 2 by decide) (show 7 * j + 22 + 6 ≤ 7 * j + 28 by omega))
      have a2' := Nat.lt_of_lt_of_le a2 (Nat.pow_le_pow_right (show 0 < 2 by decide) (show 20 + (6 * j + 1) ≤ 7 * j + 28 by omega))
      have a3 := natAbs_add_lt a1' a2'
      exact Nat.lt_of_lt_of_le a3 (Nat.pow_le_pow_right (by decide) (by omega))
    · have := Nat.mul_lt_mul'' h2 h4
      rw [← Nat.pow_add] at this
      exact Nat.lt_of_lt_of_le this (Nat.pow_le_pow_right (by decide) (by omega))
theorem S_sz {qs : List Rat} (B : Bill qs) (j : Nat) (h : j ≤ qs.length) : Sz (7 * j + 22) (S qs j) :=
  ⟨(S_sz2 B j h).1, Nat.lt_of_lt_of_le (S_sz2 B j h).2 (Nat.pow_le_pow_right (by decide) (by omega))⟩
theorem fr_num {q : Rat} : L2.atI [T.int q.num, T.int q.den] 0 = some (.int q.num) := by simp
theorem den_pos (q : Rat) : (0 : Int) < q.den := by have := q.den_pos; omega
theorem run_coins {qs : List Rat} (B : Bill qs) (n : Nat) : run (n + 4) n_coins_of [.lst (qs.map fr)] = some (.lst ((coins qs).map T.int), .full) := by
  let P : Nat → Env → Prop := fun i ρ => ∃ s0 s4 s5, ρ = [s0, some (.lst (((coins qs).take i).map T.int), .full), some (fr (S qs i), .full), some (.int (fl (S qs i)), .full), s4, s5]
  have e0 : (0 : Rat) = S qs 0 := by simp [S]
  have hz : fr 0 = .tup [.int 0, .int 1] := rfl
  obtain ⟨ρ', e1, h1⟩ := for0 (b := fun x ρ => bindT (.nm 4) x .cold ρ) (f := exSs (tabG con) (runN (tabG con) (tabF tab) (n + 3)) [.set 2 (.call [112, 108, 117, 115] [.mov 2, .mov 4]), .set 5 (.bin .fdiv (.ix (.var 2) (.int 0)) (.ix (.var 2) (.int 1))), .app 1 [] (.bin .sub (.var 5) (.mov 3)), .set 3 (.mov 5)])
    (qs.map fr) P (ρ := [none, some (.lst [], .full), some (.tup [.int 0, .int 1], .full), some (.int 0, .full), none, none]) ⟨none, none, none, by simp [coins, ← e0, hz, fl]⟩ (fun j x ρ hx hP => by
      obtain ⟨s0, s4, s5, rfl⟩ := hP
      rw [List.getElem?_map] at hx
      obtain ⟨q, hq, rfl⟩ := Option.map_eq_some_iff.mp hx
      have hj : j < qs.length := (List.getElem?_eq_some_iff.mp hq).1
      have hs := S_succ hq
      have mq : q ∈ qs := List.mem_of_getElem? hq
      have szS := S_sz B j (by omega)
      have pl : runN (tabG con) (tabF tab) (n + 3) n_plus [fr (S qs j), fr q] = some (fr (S qs j + q), .full) :=
        run_plus tab_plus (mkfr tab_fraction (n + 1)) szS (B.sz q mq) (by omega) (by decide) (by have := B.len; omega) (by decide)
      have szq := (S_sz B (j + 1) (by omega)).2
      have ld : (S qs j + q).den.log2 < 9000 := by
        rw [← hs]
        exact log2_lt (Nat.lt_of_lt_of_le szq (Nat.pow_le_pow_right (by decide) (by have := B.len; omega))) (by decide)
      have dp := (S qs j + q).den_pos
      have hlen : (coins qs).length = qs.length := by simp [coins]
      have hlt : ((coins qs).take j).length < sizeLine := lt_size (by rw [List.length_take]; have := B.len; omega)
      have hc : (coins qs)[j]? = some (fl (S qs (j + 1)) - fl (S qs j)) := by simp [coins, hj]
      simp only [n_plus] at pl
      refine ⟨[s0, some (.lst (((coins qs).take j).map T.int), .full), some (fr (S qs j), .full), some (.int (fl (S qs j)), .full), some (fr q, .full), s5], [s0, some (.lst (((coins qs).take (j + 1)).map T.int), .full), some (fr (S qs (j + 1)), .full), some (.int (fl (S qs (j + 1))), .full), some (fr q, .full), some (.int (fl (S qs (j + 1))), .full)], by simp, .inl ?_, _, _, _, rfl⟩
      rw [List.length_take] at hlt
      simp [pl, fr_nl, hs]
      simp [fr, ld, dp, hlt, List.take_add_one, hc, hs, fl])
  obtain ⟨s0, s4, s5, rfl⟩ := h1
  have hlen : (coins qs).length = qs.length := by simp [coins]
  have ht : (coins qs).take qs.length = coins qs := List.take_of_length_le (by omega)
  simp only [bindT_nm] at e1
  have tz : tabG con [90, 69, 82, 79] = some (.tup [.int 0, .int 1]) := rfl
  rw [show n + 4 = (n + 3) + 1 from rfl, run, run1 tab_coins _ _ rfl]
  simp [f_coins_of, tz, le_size, e1, ht]
end K68
namespace K68
open Ev
theorem fl_le (q : Rat) : ((fl q : Int) : Rat) ≤ q := by
  rw [Rat.le_iff]
  show fl q * (q.den : Int) ≤ q.num * 1
  unfold fl
  have := Int.ediv_mul_le q.num (b := (q.den : Int)) (by have := den_pos q; omega)
  omega
theorem lt_fl (q : Rat) : q < ((fl q + 1 : Int) : Rat) := by
  rw [Rat.lt_iff]
  show q.num * 1 < (fl q + 1) * (q.den : Int)
  unfold fl
  have := Int.lt_ediv_add_one_mul_self q.num (den_pos q)
  omega
theorem fl_mono {a b : Rat} (h : a ≤ b) : fl a ≤ fl b := by
  have h1 := fl_le a
  have h2 := lt_fl b
  have h3 : ((fl a : Int) : Rat) < ((fl b + 1 : Int) : Rat) := by grind
  have h4 : fl a < fl b + 1 := by
    rw [Rat.lt_iff] at h3
    have h3 : fl a * 1 < (fl b + 1) * 1 := h3
    omega
  omega
theorem abs_lt {q : Rat} (h1 : -1 < q) (h2 : q < 1) : (if q.num < 0 then -q.num else q.num) < q.den := by
  rw [Rat.lt_iff] at h1 h2
  have h1 : (-1) * (q.den : Int) < q.num * 1 := h1
  have h2 : q.num * 1 < 1 * (q.den : Int) := h2
  split <;> omega
theorem away {a b : Rat} : -1 < ((fl b - fl a : Int) : Rat) - (b - a) ∧ ((fl b - fl a : Int) : Rat) - (b - a) < 1 := by
  have h1 := fl_le a
  have h2 := lt_fl a
  have h3 := fl_le b
  have h4 := lt_fl b
  rw [Rat.intCast_add] at h2 h4
  rw [Rat.intCast_sub]
  have e : ((1 : Int) : Rat) = 1 := rfl
  rw [e] at h2 h4
  constructor <;> grind
theorem tele {qs : List Rat} : ∀ (i j : Nat), i + j ≤ qs.length → (((coins qs).drop i).take j).sum = fl (S qs (i + j)) - fl (S qs i)
  | i, 0, _ => by simp
  | i, j + 1, h => by
    have hc : (coins qs)[i + j]? = some (fl (S qs (i + j + 1)) - fl (S qs (i + j))) := by
      have : i + j < qs.length := by omega
      simp [coins, this]
    rw [List.take_add_one, List.sum_append, tele i j (by omega), List.getElem?_drop, hc]
    simp
    rw [← Nat.add_assoc]; omega
end K68
namespace K68
open Ev
open PySem (sizeLine)
/-- a comprehension's own slot, as it stands behind it -/
def bkS : Slot → Slot
  | some (t, .full) => if t.nl then some (t, .full) else none
  | _ => none
@[simp] theorem backE_nil {a b : Env} : backE a [] b = b := rfl
@[simp] theorem backE_cons {a b : Env} {i : Nat} {is : List Nat} : backE a (i :: is) b = backE a is (b.set i (bkS (a[i]?.getD none))) := by
  show backE a is _ = _
  congr 1
  cases h : a[i]? with
  | none => rfl
  | some s =>
    cases s with
    | none => rfl
    | some p =>
      obtain ⟨t, o⟩ := p
      cases o <;> simp [bkS]
      split <;> simp_all
@[simp] theorem wipeE_nil {a : Env} : wipeE [] a = a := rfl
@[simp] theorem wipeE_cons {a : Env} {i : Nat} {is : List Nat} : wipeE (i :: is) a = (wipeE is a).set i none := rfl
theorem step {G : List Nat → Option T} {C : List Nat → List T → Option (T × Own)} {s : Ev.S} {ss : List Ev.S} {ρ ρ' : Env} (h : exS G C s ρ = some (.nx ρ')) : exSs G C (s :: ss) ρ = exSs G C ss ρ' := by
  simp [h]
abbrev CC (n : Nat) := runN (tabG con) (tabF tab) n
abbrev GG := tabG con
/-- the sums, as they lie -/
def sm (qs : List Rat) (i : Nat) : List T := (List.range (i + 1)).map fun j => fr (S qs j)
@[simp] theorem sm_len {qs i} : (sm qs i).length = i + 1 := by simp [sm]
theorem sm_get {qs i j} (h : j ≤ i) : (sm qs i)[j]? = some (fr (S qs j)) := by
  have : j < i + 1 := by omega
  simp [sm, this]
theorem sm_succ {qs i} : sm qs (i + 1) = sm qs i ++ [fr (S qs (i + 1))] := by
  simp [sm, List.range_succ]
@[simp] theorem sm_nl {qs i} : nlL (sm qs i) = true := nlL_map (fun _ => rfl)
@[simp] theorem frs_nl {qs : List Rat} : nlL (qs.map fr) = true := nlL_map (fun _ => rfl)
def b1 : List Ev.S := [.set 4 (.bin .add (.int 1) (.bin .mod (.ix (.var 1) (.bin .add (.int 1) (.bin .mul (.int 2) (.var 3)))) (.int 40))), .app 2 [] (.call [95, 108, 97, 119, 95, 102, 114, 97, 99] [.bin .mod (.ix (.var 1) (.bin .add (.int 2) (.bin .mul (.int 2) (.var 3)))) (.ix (.lst [.int 1, .int 60, .int 1000001]) (.bin .mod (.bin .fdiv (.ix (.var 1) (.bin .add (.int 1) (.bin .mul (.int 2) (.var 3)))) (.int 40)) (.int 3))), .ix (.lst [.int 1, .mov 4]) (.bin .mod (.ix (.var 1) (.int 27)) (.int 2))])]
theorem pick2 {x y : Int} {i : Int} (h : 0 ≤ i ∧ i < 2) : ∃ z, L2.atI [T.int x, T.int y] i = some (.int z) ∧ (z = x ∨ z = y) := by
  have : i = 0 ∨ i = 1 := by omega
  rcases this with rfl | rfl
  · exact ⟨x, by simp, .inl rfl⟩
  · exact ⟨y, by simp, .inr rfl⟩
theorem pick3 {x y w : Int} {i : Int} (h : 0 ≤ i ∧ i < 3) : ∃ z, L2.atI [T.int x, T.int y, T.int w] i = some (.int z) ∧ (z = x ∨ z = y ∨ z = w) := by
  have : i = 0 ∨ i = 1 ∨ i = 2 := by omega
  rcases this with rfl | rfl | rfl
  · exact ⟨x, by simp, .inl rfl⟩
  · exact ⟨y, by simp, .inr (.inl rfl)⟩
  · exact ⟨w, by simp, .inr (.inr rfl)⟩
/-- the bill is drawn -/
theorem st3 {ds : List Int} (hl : ds.length = 30) (hd : ∀ d ∈ ds, 0 ≤ d ∧ d < 1000001) (n : Nat) : ∃ qs s3 s4, Bill qs ∧
    exS GG (CC (n + 2)) (.for_ (.nm 3) (.rng [.bin .mod (.ix (.var 1) (.int 0)) (.int 13)]) b1) [none, some (.lst (ds.map T.int), .full), some (.lst [], .full), none, none, none, none, none, none, none, none, none, none, none, none, none, none] =
      some (.nx [none, some (.lst (ds.map T.int), .full), some (.lst (qs.map fr), .full), s3, s4, none, none, none, none, none, none, none, none, none, none, none, none]) := by
  have get : ∀ i : Nat, i < 30 → (ds.map T.int)[i]? = some (.int (ds.getD i 0)) ∧ 0 ≤ ds.getD i 0 ∧ ds.getD i 0 < 1000001 := fun i h => by
    have h' : i < ds.length := by omega
    have := hd ds[i] (List.getElem_mem _)
    simp [h', this]
  obtain ⟨g0, z0⟩ := get 0 (by decide)
  obtain ⟨g27, z27⟩ := get 27 (by decide)
  generalize hd0 : ds.getD 0 0 = d0 at g0 z0
  generalize hd27 : ds.getD 27 0 = d27 at g27 z27
  have m0 : 0 ≤ d0 % 13 ∧ d0 % 13 < 13 := ⟨Int.emod_nonneg _ (by decide), Int.emod_lt_of_pos _ (by decide)⟩
  let P : Nat → Env → Prop := fun i ρ => ∃ (qs : List Rat) (s3 s4 : Slot), qs.length = i ∧ (∀ q ∈ qs, 0 ≤ q ∧ q.num.natAbs < 2 ^ 20 ∧ q.den < 2 ^ 6) ∧ ρ = [none, some (.lst (ds.map T.int), .full), some (.lst (qs.map fr), .full), s3, s4, none, none, none, none, none, none, none, none, none, none, none, none]
  obtain ⟨ρ', e, qs, s3, s4, h1, h2, rfl⟩ := for0 (b := fun x ρ => bindT (.nm 3) x .cold ρ) (f := exSs GG (CC (n + 2)) b1) ((List.range (d0 % 13).toNat).map fun i => T.int (i : Nat)) P
    (ρ := [none, some (.lst (ds.map T.int), .full), some (.lst [], .full), none, none, none, none, none, none, none, none, none, none, none, none, none, none]) ⟨[], none, none, rfl, by simp, rfl⟩ (fun j x ρ hx hP => by
      obtain ⟨qs, s3, s4, h1, h2, rfl⟩ := hP
      rw [List.getElem?_map] at hx
      obtain ⟨j', hj, rfl⟩ := Option.map_eq_some_iff.mp hx
      have hlt : j < (d0 % 13).toNat := by
        have := (List.getElem?_eq_some_iff.mp hj).1
        simpa using this
      have ej : j' = j := by
        rw [List.getElem?_range hlt] at hj
        exact (Option.some.inj hj).symm
      subst ej
      obtain ⟨g1, z1⟩ := get (1 + 2 * j') (by omega)
      obtain ⟨g2, z2⟩ := get (2 + 2 * j') (by omega)
      generalize hx1 : ds.getD (1 + 2 * j') 0 = x1 at g1 z1
      generalize hx2 : ds.getD (2 + 2 * j') 0 = x2 at g2 z2
      have a1 : L2.atI (ds.map T.int) (1 + 2 * (j' : Int)) = some (.int x1) := by
        rw [show (1 + 2 * (j' : Int)) = ((1 + 2 * j' : Nat) : Int) by omega, atI_ofNat, g1]
      have a2 : L2.atI (ds.map T.int) (2 + 2 * (j' : Int)) = some (.int x2) := by
        rw [show (2 + 2 * (j' : Int)) = ((2 + 2 * j' : Nat) : Int) by omega, atI_ofNat, g2]
      have a27 : L2.atI (ds.map T.int) 27 = some (.int d27) := by
        rw [show (27 : Int) = ((27 : Nat) : Int) by omega, atI_ofNat, g27]
      have bm : 0 ≤ x1 % 40 ∧ x1 % 40 < 40 := ⟨Int.emod_nonneg _ (by decide), Int.emod_lt_of_pos _ (by decide)⟩
      obtain ⟨M, hM, cM⟩ := pick3 (x := 1) (y := 60) (w := 1000001) (i := x1 / 40 % 3) ⟨Int.emod_nonneg _ (by decide), Int.emod_lt_of_pos _ (by decide)⟩
      obtain ⟨b, hb, cb⟩ := pick2 (x := 1) (y := 1 + x1 % 40) (i := d27 % 2) ⟨Int.emod_nonneg _ (by decide), Int.emod_lt_of_pos _ (by decide)⟩
      have pM : 0 < M ∧ M ≤ 1000001 := by omega
      have pb : 0 < b ∧ b ≤ 40 := by omega
      have tm : 0 ≤ x2 % M ∧ x2 % M < M := ⟨Int.emod_nonneg _ (by omega), Int.emod_lt_of_pos _ pM.1⟩
      have lf : runN (tabG con) (tabF tab) (n + 2) n__law_frac [.int (x2 % M), .int b] = some (fr (Rat.divInt (x2 % M) b), .full) :=
        run_lfrac tab_lfrac tab_common (by omega) (Nat.lt_of_lt_of_le (show b.natAbs < 2 ^ 6 by omega) (Nat.pow_le_pow_right (by decide) (by decide))) n
      simp only [n__law_frac] at lf
      have dq : 0 ≤ Rat.divInt (x2 % M) b ∧ (Rat.divInt (x2 % M) b).num.natAbs < 2 ^ 20 ∧ (Rat.divInt (x2 % M) b).den < 2 ^ 6 := by
        refine ⟨Rat.divInt_nonneg tm.1 (by omega), ?_⟩
        rw [divInt_pos pb.1]
        exact mkRat_sz2 (by omega) (by omega) (by omega)
      have hz : qs.length < sizeLine := lt_size (by omega)
      have l40 : (40 : Nat).log2 < 9000 := by decide
      refine ⟨[none, some (.lst (ds.map T.int), .full), some (.lst (qs.map fr), .full), some (.int (j' : Nat), .full), s4, none, none, none, none, none, none, none, none, none, none, none, none],
        [none, some (.lst (ds.map T.int), .full), some (.lst ((qs ++ [Rat.divInt (x2 % M) b]).map fr), .full), some (.int (j' : Nat), .full), some (.int (1 + x1 % 40), .full), none, none, none, none, none, none, none, none, none, none, none, none], by simp, .inl ?_, qs ++ [Rat.divInt (x2 % M) b], _, _, by simp [h1], ?_, rfl⟩
      · simp [b1, a1, a2, a27, hM, hb, pM.1, lf, hz, l40, le_size]
      · intro q m
        rcases List.mem_append.mp m with m | m
        · exact h2 q m
        · simp at m; subst m; exact dq)
  refine ⟨qs, s3, s4, ⟨by rw [h1]; simp; omega, fun q m => (h2 q m).1, fun q m => (h2 q m).2⟩, ?_⟩
  have hr : rngV [.int (d0 % 13)] = some ((List.range (d0 % 13).toNat).map fun i => T.int (i : Nat)) := rng_1 (by omega)
  simp only [bindT_nm] at e
  simp [g0, hr, e]
end K68
namespace K68
open Ev
open PySem (sizeLine)
def b2 : List Ev.S := [.app 6 [] (.call [95, 108, 97, 119, 95, 112, 108, 117, 115] [.ix (.var 6) (.bin .sub (.blt .len [.var 6]) (.int 1)), .mov 7])]
theorem S_zero {qs : List Rat} : S qs 0 = 0 := by simp [S]
/-- the sums -/
theorem st6 {qs : List Rat} (B : Bill qs) (d s3 s4 : Slot) (n : Nat) : ∃ s7,
    exS GG (CC (n + 3)) (.for_ (.nm 7) (.var 2) b2) [none, d, some (.lst (qs.map fr), .full), s3, s4, some (.lst (qs.map fr), .full), some (.lst (sm qs 0), .full), none, none, none, none, none, none, none, none, none, none] =
      some (.nx [none, d, some (.lst (qs.map fr), .cold), s3, s4, some (.lst (qs.map fr), .full), some (.lst (sm qs qs.length), .full), s7, none, none, none, none, none, none, none, none, none]) := by
  let P : Nat → Env → Prop := fun i ρ => ∃ s7, ρ = [none, d, some (.lst (qs.map fr), .cold), s3, s4, some (.lst (qs.map fr), .full), some (.lst (sm qs i), .full), s7, none, none, none, none, none, none, none, none, none]
  obtain ⟨ρ', e, s7, rfl⟩ := for0 (b := fun x ρ => bindT (.nm 7) x .cold ρ) (f := exSs GG (CC (n + 3)) b2) (qs.map fr) P
    (ρ := [none, d, some (.lst (qs.map fr), .cold), s3, s4, some (.lst (qs.map fr), .full), some (.lst (sm qs 0), .full), none, none, none, none, none, none, none, none, none, none]) ⟨none, rfl⟩ (fun j x ρ hx hP => by
      obtain ⟨s7, rfl⟩ := hP
      rw [List.getElem?_map] at hx
      obtain ⟨q, hq, rfl⟩ := Option.map_eq_some_iff.mp hx
      have hj : j < qs.length := (List.getElem?_eq_some_iff.mp hq).1
      have hs := S_succ hq
      have mq : q ∈ qs := List.mem_of_getElem? hq
      have szS := S_sz B j (by omega)
      have pl : runN (tabG con) (tabF tab) (n + 3) n__law_plus [fr (S qs j), fr q] = some (fr (S qs j + q), .full) :=
        run_plus tab_lplus (mklfr tab_lfrac tab_common n) szS (B.sz q mq) (by omega) (by decide) (by have := B.len; omega) (by decide)
      simp only [n__law_plus] at pl
      have hz : j + 1 < sizeLine := lt_size (by have := B.len; omega)
      have hg := sm_get (qs := qs) (i := j) (j := j) (by omega)
      refine ⟨[none, d, some (.lst (qs.map fr), .cold), s3, s4, some (.lst (qs.map fr), .full), some (.lst (sm qs j), .full), some (fr q, .full), none, none, none, none, none, none, none, none, none],
        [none, d, some (.lst (qs.map fr), .cold), s3, s4, some (.lst (qs.map fr), .full), some (.lst (sm qs (j + 1)), .full), some (fr q, .full), none, none, none, none, none, none, none, none, none], by simp, .inl ?_, _, rfl⟩
      rw [sm_succ, hs]
      have hg' : ∀ h, (sm qs j)[j]'h = fr (S qs j) := fun h => by simp [sm]
      simp [b2, hg', pl, hz, fr_nl])
  refine ⟨s7, ?_⟩
  simp only [bindT_nm] at e
  rw [List.length_map] at e
  simp [e]
def wh (qs : List Rat) : List T := (List.range (qs.length + 1)).map fun j => T.int (fl (S qs j))
@[simp] theorem wh_nl {qs} : nlL (wh qs) = true := nlL_map (fun _ => rfl)
theorem wh_get {qs j} (h : j ≤ qs.length) : (wh qs)[j]? = some (.int (fl (S qs j))) := by
  have : j < qs.length + 1 := by omega
  simp [wh, this]
theorem st7 {qs : List Rat} (B : Bill qs) (d s3 s4 s7 : Slot) (C : List Nat → List T → Option (T × Own)) :
    exS GG C (.setc 8 (.bin .fdiv (.var 16) (.var 4)) (.tp [(.nm 16), (.nm 4)]) (.var 6) [] [16, 4]) [none, d, some (.lst (qs.map fr), .cold), s3, s4, some (.lst (qs.map fr), .full), some (.lst (sm qs qs.length), .full), s7, none, none, none, none, none, none, none, none, none] =
      some (.nx [none, d, some (.lst (qs.map fr), .cold), s3, bkS s4, some (.lst (qs.map fr), .full), some (.lst (sm qs qs.length), .cold), s7, some (.lst (wh qs), .full), none, none, none, none, none, none, none, none]) := by
  let W : Env := [none, d, some (.lst (qs.map fr), .cold), s3, none, some (.lst (qs.map fr), .full), some (.lst (sm qs qs.length), .cold), s7, none, none, none, none, none, none, none, none, none]
  obtain ⟨ρ', e, hW⟩ := lc_inv (own := [16, 4]) (b := fun x ρ => bindT (.tp [(.nm 16), (.nm 4)]) x .cold ρ) (e := fun ρ => ((den GG C (.bin .fdiv (.var 16) (.var 4))).v ρ).bind val) (sm qs qs.length) (wh qs) (fun ρ => wipeE [16, 4] ρ = W) []
    [none, d, some (.lst (qs.map fr), .cold), s3, s4, some (.lst (qs.map fr), .full), some (.lst (sm qs qs.length), .cold), s7, none, none, none, none, none, none, none, none, none] (by simp [wh]) (by simp; have := B.len; omega) (by simp [W]) (fun j x y ρ hx hy hP => by
      have hj : j < (sm qs qs.length).length := (List.getElem?_eq_some_iff.mp hx).1
      rw [sm_len] at hj
      rw [sm_get (by omega)] at hx
      rw [wh_get (by omega)] at hy
      cases hx; cases hy
      rw [hP]
      have szq := (S_sz B j (by omega)).2
      have ld : (S qs j).den.log2 < 9000 := log2_lt (s := 9000) (Nat.lt_of_lt_of_le szq (Nat.pow_le_pow_right (by decide) (by have := B.len; omega))) (by decide)
      have dp := (S qs j).den_pos
      refine ⟨[none, d, some (.lst (qs.map fr), .cold), s3, some (.int (S qs j).den, .full), some (.lst (qs.map fr), .full), some (.lst (sm qs qs.length), .cold), s7, none, none, none, none, none, none, none, none, some (.int (S qs j).num, .full)], [none, d, some (.lst (qs.map fr), .cold), s3, some (.int (S qs j).den, .full), some (.lst (qs.map fr), .full), some (.lst (sm qs qs.length), .cold), s7, none, none, none, none, none, none, none, none, some (.int (S qs j).num, .full)], by simp [W, fr], ?_, ?_⟩
      · simp [ld, dp, fl]
      · simp [W])
  rw [hW] at e
  have e' := e
  simp only [bindT_tp, List.nil_append] at e'
  rw [exS_setc, den_lc, valD_v]
  have e6 : (den GG C (.var 6)).i [none, d, some (.lst (qs.map fr), .cold), s3, s4, some (.lst (qs.map fr), .full), some (.lst (sm qs qs.length), .full), s7, none, none, none, none, none, none, none, none, none] =
    some (sm qs qs.length, [none, d, some (.lst (qs.map fr), .cold), s3, s4, some (.lst (qs.map fr), .full), some (.lst (sm qs qs.length), .cold), s7, none, none, none, none, none, none, none, none, none]) := by simp
  rw [e6, Option.bind_some]
  simp only [denL_nil, evTs_nil]
  rw [e]
  simp [W]
  rfl
theorem coins_get {qs : List Rat} {j : Nat} (h : j < qs.length) : ((coins qs).map T.int)[j]? = some (.int (fl (S qs (j + 1)) - fl (S qs j))) := by
  simp [coins, h]
@[simp] theorem coins_len {qs : List Rat} : (coins qs).length = qs.length := by simp [coins]
theorem st8 {qs : List Rat} (B : Bill qs) (d s3 s4 s7 : Slot) (C : List Nat → List T → Option (T × Own)) :
    exS GG C (.setc 9 (.bin .sub (.ix (.var 8) (.bin .add (.var 3) (.int 1))) (.ix (.var 8) (.var 3))) (.nm 3) (.rng [.blt .len [.var 2]]) [] [3]) [none, d, some (.lst (qs.map fr), .cold), s3, s4, some (.lst (qs.map fr), .full), some (.lst (sm qs qs.length), .cold), s7, some (.lst (wh qs), .full), none, none, none, none, none, none, none, none] =
      some (.nx [none, d, some (.lst (qs.map fr), .cold), bkS s3, s4, some (.lst (qs.map fr), .full), some (.lst (sm qs qs.length), .cold), s7, some (.lst (wh qs), .full), some (.lst ((coins qs).map T.int), .full), none, none, none, none, none, none, none]) := by
  let W : Env := [none, d, some (.lst (qs.map fr), .cold), none, s4, some (.lst (qs.map fr), .full), some (.lst (sm qs qs.length), .cold), s7, some (.lst (wh qs), .full), none, none, none, none, none, none, none, none]
  obtain ⟨ρ', e, hW⟩ := lc_inv (own := [3]) (b := fun x ρ => bindT (.nm 3) x .cold ρ) (e := fun ρ => ((den GG C (.bin .sub (.ix (.var 8) (.bin .add (.var 3) (.int 1))) (.ix (.var 8) (.var 3)))).v ρ).bind val) ((List.range qs.length).map fun i => T.int (i : Nat)) ((coins qs).map T.int) (fun ρ => wipeE [3] ρ = W) []
    [none, d, some (.lst (qs.map fr), .cold), s3, s4, some (.lst (qs.map fr), .full), some (.lst (sm qs qs.length), .cold), s7, some (.lst (wh qs), .full), none, none, none, none, none, none, none, none] (by simp) (by simp; have := B.len; omega) (by simp [W]) (fun j x y ρ hx hy hP => by
      have hj : j < ((coins qs).map T.int).length := (List.getElem?_eq_some_iff.mp hy).1
      rw [List.length_map, coins_len] at hj
      rw [coins_get hj] at hy
      simp [hj] at hx
      subst hx
      cases hy
      rw [hP]
      have g1 := wh_get (qs := qs) (j := j + 1) (by omega)
      have g2 := wh_get (qs := qs) (j := j) (by omega)
      have a1 : L2.atI (wh qs) ((j : Int) + 1) = some (.int (fl (S qs (j + 1)))) := by
        rw [show ((j : Int) + 1) = ((j + 1 : Nat) : Int) by omega, atI_ofNat, g1]
      refine ⟨[none, d, some (.lst (qs.map fr), .cold), some (.int (j : Nat), .full), s4, some (.lst (qs.map fr), .full), some (.lst (sm qs qs.length), .cold), s7, some (.lst (wh qs), .full), none, none, none, none, none, none, none, none], [none, d, some (.lst (qs.map fr), .cold), some (.int (j : Nat), .full), s4, some (.lst (qs.map fr), .full), some (.lst (sm qs qs.length), .cold), s7, some (.lst (wh qs), .full), none, none, none, none, none, none, none, none], by simp [W], ?_, ?_⟩
      · simp [a1, g2]
      · simp [W])
  rw [hW] at e
  rw [exS_setc, den_lc, valD_v]
  have hr := rng_n (n := qs.length) (by have := B.len; omega)
  have e6 : (den GG C (.rng [.blt .len [.var 2]])).i [none, d, some (.lst (qs.map fr), .cold), s3, s4, some (.lst (qs.map fr), .full), some (.lst (sm qs qs.length), .cold), s7, some (.lst (wh qs), .full), none, none, none, none, none, none, none, none] =
    some ((List.range qs.length).map fun i => T.int (i : Nat), [none, d, some (.lst (qs.map fr), .cold), s3, s4, some (.lst (qs.map fr), .full), some (.lst (sm qs qs.length), .cold), s7, some (.lst (wh qs), .full), none, none, none, none, none, none, none, none]) := by simp [hr]
  rw [e6, Option.bind_some]
  simp only [denL_nil, evTs_nil]
  rw [e]
  simp [W]
end K68
namespace K68
open Ev
open PySem (sizeLine)
theorem frs_eq : ∀ qs : List Rat, eqTL (qs.map fr) (qs.map fr) = true
  | [] => rfl
  | q :: qs => by
    rw [List.map_cons]
    unfold eqTL
    rw [frs_eq qs]
    simp [fr, eqT, eqTL]
theorem frs_dep : ∀ qs : List Rat, depLeL 63 (qs.map fr) = true
  | [] => rfl
  | q :: qs => by
    rw [List.map_cons]
    unfold depLeL
    rw [frs_dep qs]
    simp [fr, T.depLe, depLeL]
theorem ne_frs (qs : List Rat) : cmpV .ne (.lst (qs.map fr)) (.lst (qs.map fr)) = some false := by
  have h : T.depLe 64 (.lst (qs.map fr)) = true := frs_dep qs
  rw [cmp_ne h h]
  show some (!eqTL (qs.map fr) (qs.map fr)) = _
  rw [frs_eq]; rfl
theorem tab_same' : tabF tab n__law_same = some (t_same n__law_same) := rfl
theorem run_same {qs : List Rat} (B : Bill qs) (n : Nat) : runN GG (tabF tab) (n + 2) n__law_same [.lst ((coins qs).map T.int), .lst ((coins qs).map T.int)] = some (.bl true, .full) :=
  same_refl tab_same' 1 _ (.lst (by simp; have := B.len; omega) (fun x m => by
    obtain ⟨i, _, rfl⟩ := List.mem_map.mp m
    exact .int)) n
def b3 : List Ev.S := [.set 11 (.call [99, 111, 105, 110, 115, 95, 111, 102] [.var 2]), .ite (.orv [.notv (.call [95, 108, 97, 119, 95, 115, 97, 109, 101] [.var 11, .var 9]), .cmp .ne (.var 2) (.var 5)]) [.ret (.bl false)] [], .app 11 [] (.int 0)]
theorem st9 {qs : List Rat} (B : Bill qs) (d s3 s4 s6 s7 s8 : Slot) (n : Nat) : ∃ s10 s11,
    exS GG (CC (n + 4)) (.for_ (.nm 10) (.rng [.int 2]) b3) [none, d, some (.lst (qs.map fr), .cold), s3, s4, some (.lst (qs.map fr), .full), s6, s7, s8, some (.lst ((coins qs).map T.int), .full), none, none, none, none, none, none, none] =
      some (.nx [none, d, some (.lst (qs.map fr), .cold), s3, s4, some (.lst (qs.map fr), .full), s6, s7, s8, some (.lst ((coins qs).map T.int), .full), s10, s11, none, none, none, none, none]) := by
  let P : Nat → Env → Prop := fun i ρ => ∃ s10 s11, ρ = [none, d, some (.lst (qs.map fr), .cold), s3, s4, some (.lst (qs.map fr), .full), s6, s7, s8, some (.lst ((coins qs).map T.int), .full), s10, s11, none, none, none, none, none]
  have hc := run_coins B n
  have hs := run_same B (n + 2)
  simp only [run, n_coins_of] at hc
  simp only [n__law_same] at hs
  obtain ⟨ρ', e, s10, s11, rfl⟩ := for0 (b := fun x ρ => bindT (.nm 10) x .cold ρ) (f := exSs GG (CC (n + 4)) b3) ((List.range 2).map fun i => T.int (i : Nat)) P
    (ρ := [none, d, some (.lst (qs.map fr), .cold), s3, s4, some (.lst (qs.map fr), .full), s6, s7, s8, some (.lst ((coins qs).map T.int), .full), none, none, none, none, none, none, none]) ⟨none, none, rfl⟩ (fun j x ρ hx hP => by
      obtain ⟨s10, s11, rfl⟩ := hP
      have hn : x.nl = true := by
        rw [List.getElem?_map] at hx
        obtain ⟨i, _, rfl⟩ := Option.map_eq_some_iff.mp hx
        rfl
      have hz : (coins qs).length < sizeLine := lt_size (by simp; have := B.len; omega)
      rw [coins_len] at hz
      refine ⟨[none, d, some (.lst (qs.map fr), .cold), s3, s4, some (.lst (qs.map fr), .full), s6, s7, s8, some (.lst ((coins qs).map T.int), .full), some (x, .full), s11, none, none, none, none, none],
        [none, d, some (.lst (qs.map fr), .cold), s3, s4, some (.lst (qs.map fr), .full), s6, s7, s8, some (.lst ((coins qs).map T.int), .full), some (x, .full), some (.lst ((coins qs).map T.int ++ [.int 0]), .full), none, none, none, none, none], by simp [hn], .inl ?_, _, _, rfl⟩
      simp [b3, hc, hs, ne_frs, hz])
  refine ⟨s10, s11, ?_⟩
  have hr := rng_n (n := 2) (by decide)
  simp only [bindT_nm] at e
  simp at hr e
  simp [hr, e]
/-- one pair of places -/
def b5 : List Ev.S := [.set 15 (.call [95, 108, 97, 119, 95, 109, 105, 110, 117, 115] [.tup [.blt .sum [.sl (.var 12) [.var 13] [.bin .add (.var 14) (.int 1)]], .int 1], .call [95, 108, 97, 119, 95, 109, 105, 110, 117, 115] [.ix (.var 6) (.bin .add (.var 14) (.int 1)), .ix (.var 6) (.var 13)]]), .ite (.cmp .ge (.blt .abs [.ix (.var 15) (.int 0)]) (.ix (.var 15) (.int 1))) [.ret (.bl false)] []]
def b4 : List Ev.S := [.ite (.cmp .lt (.ix (.var 12) (.var 13)) (.int 0)) [.ret (.bl false)] [], .for_ (.nm 14) (.rng [.var 13, .blt .len [.var 2]]) b5]
theorem cut_coins {qs : List Rat} {i j : Nat} (h : i ≤ j) (hj : j < qs.length) : cutT ((coins qs).map T.int) (some (i : Int)) (some ((j : Int) + 1)) = (((coins qs).drop i).take (j + 1 - i)).map T.int := by
  unfold cutT
  rw [show ((j : Int) + 1) = ((j + 1 : Nat) : Int) by omega, HT.sIx_nat, HT.sIx_nat]
  rw [List.length_map, coins_len]
  rw [show min i qs.length = i by omega, show min (j + 1) qs.length = j + 1 by omega, ← List.map_drop, ← List.map_take]
end K68
namespace K68
open Ev
open PySem (sizeLine)
/-- the slots of the last loops -/
def E11 (qs : List Rat) (d s3 s4 s5 s7 s9 s10 s11 s13 s14 s15 s16 : Slot) : Env := [none, d, some (.lst (qs.map fr), .cold), s3, s4, s5, some (.lst (sm qs qs.length), .cold), s7, some (.lst (wh qs), .full), s9, s10, s11, some (.lst ((coins qs).map T.int), .full), s13, s14, s15, s16]
theorem sz_int {qs : List Rat} (B : Bill qs) {j : Nat} (h : j ≤ qs.length) : (fl (S qs j)).natAbs < 2 ^ 106 := by
  have h1 := (S_sz B j h).1
  have : (fl (S qs j)).natAbs ≤ (S qs j).num.natAbs := by
    unfold fl
    exact Int.natAbs_ediv_le_natAbs _ _
  exact Nat.lt_of_le_of_lt this (Nat.lt_of_lt_of_le h1 (Nat.pow_le_pow_right (by decide) (by have := B.len; omega)))
theorem fr_int (i : Int) : T.tup [.int i, .int 1] = fr (i : Rat) := rfl
theorem inner {qs : List Rat} (B : Bill qs) (d s3 s4 s5 s7 s9 s10 s11 s14 s15 s16 : Slot) {i : Nat} (hi : i < qs.length) (n : Nat) : ∃ s14' s15',
    forLoop (fun x ρ => bindT (.nm 14) x .cold ρ) (exSs GG (CC (n + 3)) b5) ((List.range ((qs.length : Int) - i).toNat).map fun k => T.int ((i : Int) + (k : Nat))) (E11 qs d s3 s4 s5 s7 s9 s10 s11 (some (.int i, .full)) s14 s15 s16) =
      some (.nx (E11 qs d s3 s4 s5 s7 s9 s10 s11 (some (.int i, .full)) s14' s15' s16)) := by
  obtain ⟨ρ', e, s14', s15', rfl⟩ := for0 (b := fun x ρ => bindT (.nm 14) x .cold ρ) (f := exSs GG (CC (n + 3)) b5) ((List.range ((qs.length : Int) - i).toNat).map fun k => T.int ((i : Int) + (k : Nat))) (fun _ ρ => ∃ s14 s15, ρ = E11 qs d s3 s4 s5 s7 s9 s10 s11 (some (.int i, .full)) s14 s15 s16) ⟨s14, s15, rfl⟩ (fun k x ρ hx hP => by
    obtain ⟨s14, s15, rfl⟩ := hP
    rw [List.getElem?_map] at hx
    obtain ⟨k', hk, rfl⟩ := Option.map_eq_some_iff.mp hx
    have hlt : k < ((qs.length : Int) - i).toNat := by
      have := (List.getElem?_eq_some_iff.mp hk).1
      simpa using this
    have ek : k' = k := by
      rw [List.getElem?_range hlt] at hk
      exact (Option.some.inj hk).symm
    subst ek
    have hj : i + k' < qs.length := by omega
    have ej : (i : Int) + (k' : Int) = ((i + k' : Nat) : Int) := by omega
    rw [ej]
    generalize hJ : i + k' = j at *
    have hij : i ≤ j := by omega
    have g1 : L2.atI (sm qs qs.length) ((j : Int) + 1) = some (fr (S qs (j + 1))) := by
      rw [show ((j : Int) + 1) = ((j + 1 : Nat) : Int) by omega, atI_ofNat, sm_get (by omega)]
    have g2 : L2.atI (sm qs qs.length) (i : Int) = some (fr (S qs i)) := by
      rw [atI_ofNat, sm_get (by omega)]
    have hcut := cut_coins hij hj
    have htel : (((coins qs).drop i).take (j + 1 - i)).sum = fl (S qs (j + 1)) - fl (S qs i) := by
      rw [tele i (j + 1 - i) (by omega)]
      rw [show i + (j + 1 - i) = j + 1 by omega]
    generalize ((coins qs).drop i).take (j + 1 - i) = L at hcut htel
    have sz1 := S_sz B (j + 1) (by omega)
    have sz2 := S_sz B i (by omega)
    have hl := B.len
    have z1 : Sz 106 (S qs (j + 1)) := sz1.mono (by omega)
    have z2 : Sz 106 (S qs i) := sz2.mono (by omega)
    have sub1 : runN GG (tabF tab) (n + 3) n__law_minus [fr (S qs (j + 1)), fr (S qs i)] = some (fr (S qs (j + 1) - S qs i), .full) :=
      run_minus tab_lminus (mklfr tab_lfrac tab_common n) z1 z2 (by decide) (by decide) (by decide) (by decide)
    have z3 := z1.sub z2
    have z4 : Sz 107 ((fl (S qs (j + 1)) - fl (S qs i) : Int) : Rat) :=
      ⟨natAbs_sub_lt (sz_int B (by omega)) (sz_int B (by omega)), by show 1 < 2 ^ 107; decide⟩
    have sub2 : runN GG (tabF tab) (n + 3) n__law_minus [fr ((fl (S qs (j + 1)) - fl (S qs i) : Int) : Rat), fr (S qs (j + 1) - S qs i)] = some (fr (((fl (S qs (j + 1)) - fl (S qs i) : Int) : Rat) - (S qs (j + 1) - S qs i)), .full) :=
      run_minus tab_lminus (mklfr tab_lfrac tab_common n) z4 z3 (by decide) (by decide) (by decide) (by decide)
    have aw := away (a := S qs i) (b := S qs (j + 1))
    have ab := abs_lt aw.1 aw.2
    generalize ((fl (S qs (j + 1)) - fl (S qs i) : Int) : Rat) - (S qs (j + 1) - S qs i) = A at sub2 ab
    rw [← fr_int] at sub2
    simp only [n__law_minus] at sub1 sub2
    have ab' : ¬ ((A.den : Int) ≤ if A.num < 0 then -A.num else A.num) := by omega
    refine ⟨E11 qs d s3 s4 s5 s7 s9 s10 s11 (some (.int i, .full)) (some (.int (j : Nat), .full)) s15 s16, E11 qs d s3 s4 s5 s7 s9 s10 s11 (some (.int i, .full)) (some (.int (j : Nat), .full)) (some (fr A, .full)) s16, by simp [E11], .inl ?_, _, _, rfl⟩
    simp only [E11]
    simp [b5, slV, hcut, htel, g1, g2, sub1, sub2, le_size]
    simp [fr, ab'])
  exact ⟨s14', s15', e⟩
end K68
namespace K68
open Ev
open PySem (sizeLine)
theorem outer {qs : List Rat} (B : Bill qs) (d s3 s4 s5 s7 s9 s10 s11 s13 s14 s15 s16 : Slot) (n : Nat) : ∃ s13' s14' s15',
    exS GG (CC (n + 3)) (.for_ (.nm 13) (.rng [.blt .len [.var 2]]) b4) (E11 qs d s3 s4 s5 s7 s9 s10 s11 s13 s14 s15 s16) = some (.nx (E11 qs d s3 s4 s5 s7 s9 s10 s11 s13' s14' s15' s16)) := by
  obtain ⟨ρ', e, s13', s14', s15', rfl⟩ := for0 (b := fun x ρ => bindT (.nm 13) x .cold ρ) (f := exSs GG (CC (n + 3)) b4) ((List.range qs.length).map fun i => T.int (i : Nat)) (fun _ ρ => ∃ s13 s14 s15, ρ = E11 qs d s3 s4 s5 s7 s9 s10 s11 s13 s14 s15 s16) ⟨s13, s14, s15, rfl⟩ (fun k x ρ hx hP => by
    obtain ⟨s13, s14, s15, rfl⟩ := hP
    rw [List.getElem?_map] at hx
    obtain ⟨i, hk, rfl⟩ := Option.map_eq_some_iff.mp hx
    have hlt : k < qs.length := by
      have := (List.getElem?_eq_some_iff.mp hk).1
      simpa using this
    have ek : i = k := by
      rw [List.getElem?_range hlt] at hk
      exact (Option.some.inj hk).symm
    subst ek
    obtain ⟨s14', s15', e⟩ := inner B d s3 s4 s5 s7 s9 s10 s11 s14 s15 s16 hlt n
    have hg := coins_get (qs := qs) hlt
    have e0 : qs[i]? = some qs[i] := List.getElem?_eq_getElem hlt
    have hq : 0 ≤ qs[i] := B.nn _ (List.getElem_mem _)
    have hm : fl (S qs i) ≤ fl (S qs (i + 1)) := fl_mono (by rw [S_succ e0]; grind)
    have hn : ¬ (fl (S qs (i + 1)) - fl (S qs i) < 0) := by omega
    have hr := rng_2 (i := (i : Int)) (j := (qs.length : Int)) ⟨by have := B.len; omega, by have := B.len; omega⟩
    refine ⟨E11 qs d s3 s4 s5 s7 s9 s10 s11 (some (.int i, .full)) s14 s15 s16, E11 qs d s3 s4 s5 s7 s9 s10 s11 (some (.int i, .full)) s14' s15' s16, by simp [E11], .inl ?_, _, _, _, rfl⟩
    have f1 : exS GG (CC (n + 3)) (.ite (.cmp .lt (.ix (.var 12) (.var 13)) (.int 0)) [.ret (.bl false)] []) (E11 qs d s3 s4 s5 s7 s9 s10 s11 (some (.int i, .full)) s14 s15 s16) = some (.nx (E11 qs d s3 s4 s5 s7 s9 s10 s11 (some (.int i, .full)) s14 s15 s16)) := by
      have hg' : L2.atI ((coins qs).map T.int) (i : Int) = some (.int (fl (S qs (i + 1)) - fl (S qs i))) := by rw [atI_ofNat, hg]
      simp only [E11]
      simp [-atI_ofNat, hg', hn]
    have f2 : (den GG (CC (n + 3)) (.rng [.var 13, .blt .len [.var 2]])).i (E11 qs d s3 s4 s5 s7 s9 s10 s11 (some (.int i, .full)) s14 s15 s16) = some ((List.range ((qs.length : Int) - i).toNat).map fun k => T.int ((i : Int) + (k : Nat)), E11 qs d s3 s4 s5 s7 s9 s10 s11 (some (.int i, .full)) s14 s15 s16) := by
      simp only [E11]
      simp [hr]
    unfold b4
    rw [step f1, exSs_cons, exS_for_, f2, Option.bind_some, e]
    simp)
  refine ⟨s13', s14', s15', ?_⟩
  have hr := rng_n (n := qs.length) (by have := B.len; omega)
  have f2 : (den GG (CC (n + 3)) (.rng [.blt .len [.var 2]])).i (E11 qs d s3 s4 s5 s7 s9 s10 s11 s13 s14 s15 s16) = some ((List.range qs.length).map fun i => T.int (i : Nat), E11 qs d s3 s4 s5 s7 s9 s10 s11 s13 s14 s15 s16) := by
    simp only [E11]
    simp [hr]
  rw [exS_for_, f2, Option.bind_some, e]
theorem fl_0 {qs : List Rat} : fl (S qs 0) = 0 := by
  rw [S_zero]; decide
theorem last {qs : List Rat} (B : Bill qs) (d s3 s4 s5 s7 s9 s10 s11 s13 s14 s15 s16 : Slot) (C : List Nat → List T → Option (T × Own)) :
    exS GG C (.ret (.cmp .eq (.blt .sum [.mov 12]) (.ix (.mov 8) (.blt .len [.mov 2])))) (E11 qs d s3 s4 s5 s7 s9 s10 s11 s13 s14 s15 s16) = some (.rt (.bl true) .full) := by
  have ht := tele (qs := qs) 0 qs.length (by omega)
  have e1 : (coins qs).take qs.length = coins qs := List.take_of_length_le (by simp)
  rw [List.drop_zero, e1, fl_0, Nat.zero_add] at ht
  have hg : L2.atI (wh qs) (qs.length : Int) = some (.int (fl (S qs qs.length))) := by rw [atI_ofNat, wh_get (Nat.le_refl _)]
  simp only [E11]
  simp [-atI_ofNat, hg, ht]
theorem holds (ns : List Int) (h : ns.length ≤ 63) : run 60 n_law [.lst (ns.map T.int)] = some (.bl true, .full) := by
  obtain ⟨ds, hl, hd, e1⟩ := run_numbers (G := GG) (F := tabF tab) tab_numbers (L := 1000001) (by decide) (by decide) (ns.getD 0 0) (c := 30) (by decide) 58
  have ec := run_cell (G := GG) (F := tabF tab) tab_cell ns 0 58
  obtain ⟨qs, s3, s4, B, e3⟩ := st3 hl hd 57
  obtain ⟨s7, e6⟩ := st6 B (some (.lst (ds.map T.int), .full)) s3 s4 56
  have e7 := st7 B (some (.lst (ds.map T.int), .full)) s3 s4 s7 (CC 59)
  have e8 := st8 B (some (.lst (ds.map T.int), .full)) s3 (bkS s4) s7 (CC 59)
  obtain ⟨s10, s11, e9⟩ := st9 B (some (.lst (ds.map T.int), .full)) (bkS s3) (bkS s4) (some (.lst (sm qs qs.length), .cold)) s7 (some (.lst (wh qs), .full)) 55
  have e10 := run_coins B 55
  obtain ⟨s13, s14, s15, e11⟩ := outer B (some (.lst (ds.map T.int), .full)) (bkS s3) (bkS s4) (some (.lst (qs.map fr), .full)) s7 (some (.lst ((coins qs).map T.int), .full)) s10 s11 none none none none 56
  have e12 := last B (some (.lst (ds.map T.int), .full)) (bkS s3) (bkS s4) (some (.lst (qs.map fr), .full)) s7 (some (.lst ((coins qs).map T.int), .full)) s10 s11 s13 s14 s15 none (CC 59)
  have q1 : exS GG (CC 59) (.set 1 (.call n__law_numbers [.call n__law_cell [.mov 0, .int 0], .int 30, .int 1000001])) [some (.lst (ns.map T.int), .cold), none, none, none, none, none, none, none, none, none, none, none, none, none, none, none, none] =
      some (.nx [none, some (.lst (ds.map T.int), .full), none, none, none, none, none, none, none, none, none, none, none, none, none, none, none]) := by
    have ec' : CC 59 n__law_cell [.lst (ns.map T.int), .int 0] = some (.int (ns.getD 0 0), .full) := ec
    have e1' : CC 59 n__law_numbers [.int (ns.getD 0 0), .int 30, .int 1000001] = some (.lst (ds.map T.int), .full) := e1
    generalize ns.getD 0 0 = c0 at ec' e1'
    simp [ec', e1']
  have q2 : exS GG (CC 59) (.set 2 (.lst [])) [none, some (.lst (ds.map T.int), .full), none, none, none, none, none, none, none, none, none, none, none, none, none, none, none] =
      some (.nx [none, some (.lst (ds.map T.int), .full), some (.lst [], .full), none, none, none, none, none, none, none, none, none, none, none, none, none, none]) := by simp
  have q4 : exS GG (CC 59) (.set 5 (.blt .list [.var 2])) [none, some (.lst (ds.map T.int), .full), some (.lst (qs.map fr), .full), s3, s4, none, none, none, none, none, none, none, none, none, none, none, none] =
      some (.nx [none, some (.lst (ds.map T.int), .full), some (.lst (qs.map fr), .full), s3, s4, some (.lst (qs.map fr), .full), none, none, none, none, none, none, none, none, none, none, none]) := by simp
  have q5 : exS GG (CC 59) (.set 6 (.lst [.tup [.int 0, .int 1]])) [none, some (.lst (ds.map T.int), .full), some (.lst (qs.map fr), .full), s3, s4, some (.lst (qs.map fr), .full), none, none, none, none, none, none, none, none, none, none, none] =
      some (.nx [none, some (.lst (ds.map T.int), .full), some (.lst (qs.map fr), .full), s3, s4, some (.lst (qs.map fr), .full), some (.lst (sm qs 0), .full), none, none, none, none, none, none, none, none, none, none]) := by
    have e0 : sm qs 0 = [.tup [.int 0, .int 1]] := by
      simp [sm, S_zero]; rfl
    rw [e0]
    simp [le_size]
  have q10 : exS GG (CC 59) (.set 12 (.call n_coins_of [.var 2])) [none, some (.lst (ds.map T.int), .full), some (.lst (qs.map fr), .cold), bkS s3, bkS s4, some (.lst (qs.map fr), .full), some (.lst (sm qs qs.length), .cold), s7, some (.lst (wh qs), .full), some (.lst ((coins qs).map T.int), .full), s10, s11, none, none, none, none, none] =
      some (.nx (E11 qs (some (.lst (ds.map T.int), .full)) (bkS s3) (bkS s4) (some (.lst (qs.map fr), .full)) s7 (some (.lst ((coins qs).map T.int), .full)) s10 s11 none none none none)) := by
    have e10' : CC 59 n_coins_of [.lst (qs.map fr)] = some (.lst ((coins qs).map T.int), .full) := e10
    simp [e10', E11]
  rw [show (60 : Nat) = 59 + 1 from rfl, run, run1 tab_law _ _ rfl]
  have eS : startE f_law.ns [.lst (ns.map T.int)] = [some (.lst (ns.map T.int), .cold), none, none, none, none, none, none, none, none, none, none, none, none, none, none, none, none] := rfl
  rw [eS]
  have fin : exSs GG (CC 59) f_law.body [some (.lst (ns.map T.int), .cold), none, none, none, none, none, none, none, none, none, none, none, none, none, none, none, none] = some (.rt (.bl true) .full) := by
    refine (step q1).trans ?_
    refine (step q2).trans ?_
    refine (step e3).trans ?_
    refine (step q4).trans ?_
    refine (step q5).trans ?_
    refine (step e6).trans ?_
    refine (step e7).trans ?_
    refine (step e8).trans ?_
    refine (step e9).trans ?_
    refine (step q10).trans ?_
    refine (step e11).trans ?_
    rw [exSs_cons, e12]
    rfl
  rw [fin]
  rfl
end K68
namespace K68
open PySem PySem.Spec PyProof.Rows L2 Ev
def topS (i : Nat) : Stmt := PySem.Challenge.pw_wordsweighed_k68_bills_in_whole_coins.main.body.getD i (.Pass ⟨0, 0, 0, 0⟩)
def U : BF → Bool
  | .abs => true
  | .gcd => true
  | .int => true
  | .len => true
  | .list => true
  | .sum => true
  | _ => false
abbrev s_fraction : Stmt := topS 3
def N_fraction : List Str := ["top", "bottom", "common"]
theorem S_fraction : FnScope N_fraction ["top", "bottom"] (defScope s_fraction) := ⟨rfl, rfl, rfl, by decide +kernel, rfl, by decide +kernel, by decide +kernel⟩
theorem m_fraction : mSs U N_fraction (defScope s_fraction) f_fraction.body (defBody s_fraction) = true := by decide +kernel
abbrev s_plus : Stmt := topS 4
def N_plus : List Str := ["one", "other"]
theorem S_plus : FnScope N_plus ["one", "other"] (defScope s_plus) := ⟨rfl, rfl, rfl, by decide +kernel, rfl, by decide +kernel, by decide +kernel⟩
theorem m_plus : mSs U N_plus (defScope s_plus) f_plus.body (defBody s_plus) = true := by decide +kernel
abbrev s_coins_of : Stmt := topS 6
def N_coins_of : List Str := ["bill", "found", "total", "paid", "amount", "later"]
theorem S_coins_of : FnScope N_coins_of ["bill"] (defScope s_coins_of) := ⟨rfl, rfl, rfl, by decide +kernel, rfl, by decide +kernel, by decide +kernel⟩
theorem m_coins_of : mSs U N_coins_of (defScope s_coins_of) f_coins_of.body (defBody s_coins_of) = true := by decide +kernel
abbrev s__law_cell : Stmt := topS 8
def N__law_cell : List Str := ["script", "k"]
theorem S__law_cell : FnScope N__law_cell ["script", "k"] (defScope s__law_cell) := ⟨rfl, rfl, rfl, by decide +kernel, rfl, by decide +kernel, by decide +kernel⟩
theorem m__law_cell : mSs U N__law_cell (defScope s__law_cell) f__law_cell.body (defBody s__law_cell) = true := by decide +kernel
abbrev s__law_numbers : Stmt := topS 9
def N__law_numbers : List Str := ["cell", "count", "limit", "found", "k", "mixed"]
theorem S__law_numbers : FnScope N__law_numbers ["cell", "count", "limit"] (defScope s__law_numbers) := ⟨rfl, rfl, rfl, by decide +kernel, rfl, by decide +kernel, by decide +kernel⟩
theorem m__law_numbers : mSs U N__law_numbers (defScope s__law_numbers) f__law_numbers.body (defBody s__law_numbers) = true := by decide +kernel
abbrev s__law_common : Stmt := topS 10
def N__law_common : List Str := ["one", "other", "turn"]
theorem S__law_common : FnScope N__law_common ["one", "other"] (defScope s__law_common) := ⟨rfl, rfl, rfl, by decide +kernel, rfl, by decide +kernel, by decide +kernel⟩
theorem m__law_common : mSs U N__law_common (defScope s__law_common) f__law_common.body (defBody s__law_common) = true := by decide +kernel
abbrev s__law_frac : Stmt := topS 11
def N__law_frac : List Str := ["top", "bottom", "common"]
theorem S__law_frac : FnScope N__law_frac ["top", "bottom"] (defScope s__law_frac) := ⟨rfl, rfl, rfl, by decide +kernel, rfl, by decide +kernel, by decide +kernel⟩
theorem m__law_frac : mSs U N__law_frac (defScope s__law_frac) f__law_frac.body (defBody s__law_frac) = true := by decide +kernel
abbrev s__law_plus : Stmt := topS 12
def N__law_plus : List Str := ["one", "other"]
theorem S__law_plus : FnScope N__law_plus ["one", "other"] (defScope s__law_plus) := ⟨rfl, rfl, rfl, by decide +kernel, rfl, by decide +kernel, by decide +kernel⟩
theorem m__law_plus : mSs U N__law_plus (defScope s__law_plus) f__law_plus.body (defBody s__law_plus) = true := by decide +kernel
abbrev s__law_minus : Stmt := topS 13
def N__law_minus : List Str := ["one", "other"]
theorem S__law_minus : FnScope N__law_minus ["one", "other"] (defScope s__law_minus) := ⟨rfl, rfl, rfl, by decide +kernel, rfl, by decide +kernel, by decide +kernel⟩
theorem m__law_minus : mSs U N__law_minus (defScope s__law_minus) f__law_minus.body (defBody s__law_minus) = true := by decide +kernel
abbrev s__law_same : Stmt := topS 14
def N__law_same : List Str := ["told", "due", "k"]
theorem S__law_same : FnScope N__law_same ["told", "due"] (defScope s__law_same) := ⟨rfl, rfl, rfl, by decide +kernel, rfl, by decide +kernel, by decide +kernel⟩
theorem m__law_same : mSs U N__law_same (defScope s__law_same) f__law_same.body (defBody s__law_same) = true := by decide +kernel
abbrev s_law : Stmt := topS 15
def N_law : List Str := ["script", "draws", "bill", "k", "bottom", "kept", "sums", "amount", "wholes", "due", "turn", "told", "coins", "i", "j", "away", "top"]
theorem S_law : FnScope N_law ["script"] (defScope s_law) := ⟨rfl, rfl, rfl, by decide +kernel, rfl, by decide +kernel, by decide +kernel⟩
theorem m_law : mSs U N_law (defScope s_law) f_law.body (defBody s_law) = true := by decide +kernel
theorem fin {l : PySem.W.OpenLaw} {w : World} {K : PySem.W.Frag} {h : Heap} {mg : Str → Option Value} {fa : Addr} (X : K.In h) (Gn : h.Ns mainGlobals mg) (hfa : mg "law" = some (.ref fa))
    {a0 : Addr} {oc0 kV0 dc0 pm0 cd0 ct0 : Value} {od0 an0 : Option Addr} {sl0 : Array (Option Value)}
    (p0 : PySem.W.nsIn K mainGlobals "fraction" = some (some (.ref a0))) (l0 : K.lookup a0 = some ⟨oc0, od0, .func (PySem.W.fnOf "fraction" "fraction" (defArgs s_fraction) (defBody s_fraction) (defScope s_fraction) .none kV0 dc0 pm0 an0 cd0 ct0), sl0⟩) (c0 : PySem.W.codeIn K cd0 "fraction" = true) (k0 : PySem.W.keepIn K (.ref a0) = true)
    {a1 : Addr} {oc1 kV1 dc1 pm1 cd1 ct1 : Value} {od1 an1 : Option Addr} {sl1 : Array (Option Value)}
    (p1 : PySem.W.nsIn K mainGlobals "plus" = some (some (.ref a1))) (l1 : K.lookup a1 = some ⟨oc1, od1, .func (PySem.W.fnOf "plus" "plus" (defArgs s_plus) (defBody s_plus) (defScope s_plus) .none kV1 dc1 pm1 an1 cd1 ct1), sl1⟩) (c1 : PySem.W.codeIn K cd1 "plus" = true) (k1 : PySem.W.keepIn K (.ref a1) = true)
    {a2 : Addr} {oc2 kV2 dc2 pm2 cd2 ct2 : Value} {od2 an2 : Option Addr} {sl2 : Array (Option Value)}
    (p2 : PySem.W.nsIn K mainGlobals "coins_of" = some (some (.ref a2))) (l2 : K.lookup a2 = some ⟨oc2, od2, .func (PySem.W.fnOf "coins_of" "coins_of" (defArgs s_coins_of) (defBody s_coins_of) (defScope s_coins_of) .none kV2 dc2 pm2 an2 cd2 ct2), sl2⟩) (c2 : PySem.W.codeIn K cd2 "coins_of" = true) (k2 : PySem.W.keepIn K (.ref a2) = true)
    {a3 : Addr} {oc3 kV3 dc3 pm3 cd3 ct3 : Value} {od3 an3 : Option Addr} {sl3 : Array (Option Value)}
    (p3 : PySem.W.nsIn K mainGlobals "_law_cell" = some (some (.ref a3))) (l3 : K.lookup a3 = some ⟨oc3, od3, .func (PySem.W.fnOf "_law_cell" "_law_cell" (defArgs s__law_cell) (defBody s__law_cell) (defScope s__law_cell) .none kV3 dc3 pm3 an3 cd3 ct3), sl3⟩) (c3 : PySem.W.codeIn K cd3 "_law_cell" = true) (k3 : PySem.W.keepIn K (.ref a3) = true)
    {a4 : Addr} {oc4 kV4 dc4 pm4 cd4 ct4 : Value} {od4 an4 : Option Addr} {sl4 : Array (Option Value)}
    (p4 : PySem.W.nsIn K mainGlobals "_law_numbers" = some (some (.ref a4))) (l4 : K.lookup a4 = some ⟨oc4, od4, .func (PySem.W.fnOf "_law_numbers" "_law_numbers" (defArgs s__law_numbers) (defBody s__law_numbers) (defScope s__law_numbers) .none kV4 dc4 pm4 an4 cd4 ct4), sl4⟩) (c4 : PySem.W.codeIn K cd4 "_law_numbers" = true) (k4 : PySem.W.keepIn K (.ref a4) = true)
    {a5 : Addr} {oc5 kV5 dc5 pm5 cd5 ct5 : Value} {od5 an5 : Option Addr} {sl5 : Array (Option Value)}
    (p5 : PySem.W.nsIn K mainGlobals "_law_common" = some (some (.ref a5))) (l5 : K.lookup a5 = some ⟨oc5, od5, .func (PySem.W.fnOf "_law_common" "_law_common" (defArgs s__law_common) (defBody s__law_common) (defScope s__law_common) .none kV5 dc5 pm5 an5 cd5 ct5), sl5⟩) (c5 : PySem.W.codeIn K cd5 "_law_common" = true) (k5 : PySem.W.keepIn K (.ref a5) = true)
    {a6 : Addr} {oc6 kV6 dc6 pm6 cd6 ct6 : Value} {od6 an6 : Option Addr} {sl6 : Array (Option Value)}
    (p6 : PySem.W.nsIn K mainGlobals "_law_frac" = some (some (.ref a6))) (l6 : K.lookup a6 = some ⟨oc6, od6, .func (PySem.W.fnOf "_law_frac" "_law_frac" (defArgs s__law_frac) (defBody s__law_frac) (defScope s__law_frac) .none kV6 dc6 pm6 an6 cd6 ct6), sl6⟩) (c6 : PySem.W.codeIn K cd6 "_law_frac" = true) (k6 : PySem.W.keepIn K (.ref a6) = true)
    {a7 : Addr} {oc7 kV7 dc7 pm7 cd7 ct7 : Value} {od7 an7 : Option Addr} {sl7 : Array (Option Value)}
    (p7 : PySem.W.nsIn K mainGlobals "_law_plus" = some (some (.ref a7))) (l7 : K.lookup a7 = some ⟨oc7, od7, .func (PySem.W.fnOf "_law_plus" "_law_plus" (defArgs s__law_plus) (defBody s__law_plus) (defScope s__law_plus) .none kV7 dc7 pm7 an7 cd7 ct7), sl7⟩) (c7 : PySem.W.codeIn K cd7 "_law_plus" = true) (k7 : PySem.W.keepIn K (.ref a7) = true)
    {a8 : Addr} {oc8 kV8 dc8 pm8 cd8 ct8 : Value} {od8 an8 : Option Addr} {sl8 : Array (Option Value)}
    (p8 : PySem.W.nsIn K mainGlobals "_law_minus" = some (some (.ref a8))) (l8 : K.lookup a8 = some ⟨oc8, od8, .func (PySem.W.fnOf "_law_minus" "_law_minus" (defArgs s__law_minus) (defBody s__law_minus) (defScope s__law_minus) .none kV8 dc8 pm8 an8 cd8 ct8), sl8⟩) (c8 : PySem.W.codeIn K cd8 "_law_minus" = true) (k8 : PySem.W.keepIn K (.ref a8) = true)
    {a9 : Addr} {oc9 kV9 dc9 pm9 cd9 ct9 : Value} {od9 an9 : Option Addr} {sl9 : Array (Option Value)}
    (p9 : PySem.W.nsIn K mainGlobals "_law_same" = some (some (.ref a9))) (l9 : K.lookup a9 = some ⟨oc9, od9, .func (PySem.W.fnOf "_law_same" "_law_same" (defArgs s__law_same) (defBody s__law_same) (defScope s__law_same) .none kV9 dc9 pm9 an9 cd9 ct9), sl9⟩) (c9 : PySem.W.codeIn K cd9 "_law_same" = true) (k9 : PySem.W.keepIn K (.ref a9) = true)
    {a10 : Addr} {oc10 kV10 dc10 pm10 cd10 ct10 : Value} {od10 an10 : Option Addr} {sl10 : Array (Option Value)}
    (p10 : PySem.W.nsIn K mainGlobals "law" = some (some (.ref a10))) (l10 : K.lookup a10 = some ⟨oc10, od10, .func (PySem.W.fnOf "law" "law" (defArgs s_law) (defBody s_law) (defScope s_law) .none kV10 dc10 pm10 an10 cd10 ct10), sl10⟩) (c10 : PySem.W.codeIn K cd10 "law" = true) (k10 : PySem.W.keepIn K (.ref a10) = true)
    {ga0 : Addr} {goc0 : Option Addr} {gsl0 : Array (Option Value)} {gn0 : Nat} {gt0_0 : Tok} {gt0_1 : Tok}
    (g0 : PySem.W.nsIn K mainGlobals "ZERO" = some (some (.ref ga0))) (h0 : K.lookup ga0 = some ⟨.type "tuple", goc0, .seq #[.int (0) gt0_0, .int (1) gt0_1] gn0, gsl0⟩)
    (z_abs : PySem.W.nsIn K mainGlobals "abs" = some none)
    (z_int : PySem.W.nsIn K mainGlobals "int" = some none)
    (z_len : PySem.W.nsIn K mainGlobals "len" = some none)
    (z_list : PySem.W.nsIn K mainGlobals "list" = some none)
    (z_sum : PySem.W.nsIn K mainGlobals "sum" = some none)
    (z_isinstance : PySem.W.nsIn K mainGlobals "isinstance" = some none)
    (z_bool : PySem.W.nsIn K mainGlobals "bool" = some none)
    (z_str : PySem.W.nsIn K mainGlobals "str" = some none)
    (z_tuple : PySem.W.nsIn K mainGlobals "tuple" = some none)
    (z_range : PySem.W.nsIn K mainGlobals "range" = some none)
    (z_zip : PySem.W.nsIn K mainGlobals "zip" = some none)
    (z_enumerate : PySem.W.nsIn K mainGlobals "enumerate" = some none)
    (z_reversed : PySem.W.nsIn K mainGlobals "reversed" = some none)
    (z_gcd : PySem.W.nsIn K mainGlobals "gcd" = some (some (.builtin "math.gcd")))
    : ∃ fd : FuncData, (∀ (s : Shared) (v : Value), BindsTo s fd ⟨[v], []⟩ [("script", v)]) ∧ ∀ base : Heap, K.In base → base.Ns mainGlobals mg → FnOk l.prog w K mg base CX0 60 fa fd ["script"] (spC K 1 (run 60 n_law)) := by
  have zn : ∀ {x : Str}, PySem.W.nsIn K mainGlobals x = some none → mg x = none := fun z => PySem.W.mg_none_of X Gn z
  have M : MOk K mg U (tabG con) :=
    { blt := fun f hu hg => by
        cases f with
        | abs => exact zn z_abs
        | gcd => exact absurd rfl hg
        | int => exact zn z_int
        | len => exact zn z_len
        | list => exact zn z_list
        | sum => exact zn z_sum
        | _ => cases hu
      gcd := fun hu => PySem.W.mg_of X Gn z_gcd
      isi := zn z_isinstance
      cls := fun c => by
        cases c with
        | int => exact zn z_int
        | bool => exact zn z_bool
        | str => exact zn z_str
        | list => exact zn z_list
        | tuple => exact zn z_tuple
      rng := zn z_range
      zip := zn z_zip
      enm := zn z_enumerate
      rvd := zn z_reversed
      glob := AllC.of ⟨c_tup (its := [.int (0) gt0_0, .int (1) gt0_1]) X Gn (by decide +kernel) g0 h0 (Nat.le_of_ble_eq_true rfl) ⟨lit_int, lit_int, trivial⟩, trivial⟩ }
  have d0 : DefOk K mg U n_fraction f_fraction := d_mk X Gn (by decide +kernel) p0 l0 c0 k0 (fun _ _ _ _ _ _ us hl => match us, hl with | [_, _], _ => rfl) S_fraction rfl rfl m_fraction
  have d1 : DefOk K mg U n_plus f_plus := d_mk X Gn (by decide +kernel) p1 l1 c1 k1 (fun _ _ _ _ _ _ us hl => match us, hl with | [_, _], _ => rfl) S_plus rfl rfl m_plus
  have d2 : DefOk K mg U n_coins_of f_coins_of := d_mk X Gn (by decide +kernel) p2 l2 c2 k2 (fun _ _ _ _ _ _ us hl => match us, hl with | [_], _ => rfl) S_coins_of rfl rfl m_coins_of
  have d3 : DefOk K mg U n__law_cell f__law_cell := d_mk X Gn (by decide +kernel) p3 l3 c3 k3 (fun _ _ _ _ _ _ us hl => match us, hl with | [_, _], _ => rfl) S__law_cell rfl rfl m__law_cell
  have d4 : DefOk K mg U n__law_numbers f__law_numbers := d_mk X Gn (by decide +kernel) p4 l4 c4 k4 (fun _ _ _ _ _ _ us hl => match us, hl with | [_, _, _], _ => rfl) S__law_numbers rfl rfl m__law_numbers
  have d5 : DefOk K mg U n__law_common f__law_common := d_mk X Gn (by decide +kernel) p5 l5 c5 k5 (fun _ _ _ _ _ _ us hl => match us, hl with | [_, _], _ => rfl) S__law_common rfl rfl m__law_common
  have d6 : DefOk K mg U n__law_frac f__law_frac := d_mk X Gn (by decide +kernel) p6 l6 c6 k6 (fun _ _ _ _ _ _ us hl => match us, hl with | [_, _], _ => rfl) S__law_frac rfl rfl m__law_frac
  have d7 : DefOk K mg U n__law_plus f__law_plus := d_mk X Gn (by decide +kernel) p7 l7 c7 k7 (fun _ _ _ _ _ _ us hl => match us, hl with | [_, _], _ => rfl) S__law_plus rfl rfl m__law_plus
  have d8 : DefOk K mg U n__law_minus f__law_minus := d_mk X Gn (by decide +kernel) p8 l8 c8 k8 (fun _ _ _ _ _ _ us hl => match us, hl with | [_, _], _ => rfl) S__law_minus rfl rfl m__law_minus
  have d9 : DefOk K mg U n__law_same f__law_same := d_mk X Gn (by decide +kernel) p9 l9 c9 k9 (fun _ _ _ _ _ _ us hl => match us, hl with | [_, _], _ => rfl) S__law_same rfl rfl m__law_same
  have d10 : DefOk K mg U n_law f_law := d_mk X Gn (by decide +kernel) p10 l10 c10 k10 (fun _ _ _ _ _ _ us hl => match us, hl with | [_], _ => rfl) S_law rfl rfl m_law
  exact law_F X Gn hfa M (tb := tab) ⟨d0, d1, d2, d3, d4, d5, d6, d7, d8, d9, d10, trivial⟩ (f := n_law) (d := f_law) rfl (by decide +kernel) p10 l10 c10 k10 (fun s v => .of_eq rfl) S_law rfl rfl m_law
end K68
open PySem PySem.W PyProof.Rows
set_option maxHeartbeats 0 in
theorem PySem.Challenge.cw_wordsweighed_k68_bills_in_whole_coins_holds : PySem.Challenge.rw_wordsweighed_k68_bills_in_whole_coins.Holds := by
  w_on; o_law; k_head; (case hw => w_witness2)
  k_fill
  refine L2.walk_of (l := PySem.Challenge.rw_wordsweighed_k68_bills_in_whole_coins) (n := 63) (k := 60) (x := "script") (CX := fun _ => L2.CX0) (sp := fun w => Ev.spC _ 1 (K68.run 60 K68.n_law)) rfl (by decide) rfl ⟨rfl, by decide, by decide⟩ (fun w h Y => PySem.W.kIn_of Y) ?F (fun w H a ns hl _ hS => Ev.sp_law (o := .full) ?N hS (K68.holds ns hl)) (fun _ _ _ _ _ h => h)
  case N => rfl
  case F =>
    intro w mg fa h KX G hmg
    refine' K68.fin KX G hmg ?p0 ?l0 ?c0 ?k0 ?p1 ?l1 ?c1 ?k1 ?p2 ?l2 ?c2 ?k2 ?p3 ?l3 ?c3 ?k3 ?p4 ?l4 ?c4 ?k4 ?p5 ?l5 ?c5 ?k5 ?p6 ?l6 ?c6 ?k6 ?p7 ?l7 ?c7 ?k7 ?p8 ?l8 ?c8 ?k8 ?p9 ?l9 ?c9 ?k9 ?p10 ?l10 ?c10 ?k10 ?g0 ?h0 ?z_abs ?z_int ?z_len ?z_list ?z_sum ?z_isinstance ?z_bool ?z_str ?z_tuple ?z_range ?z_zip ?z_enumerate ?z_reversed ?z_gcd
    (case p0 => k_is); (case l0 => k_is); (case c0 => k_is); (case k0 => k_is); (case p1 => k_is); (case l1 => k_is); (case c1 => k_is); (case k1 => k_is); (case p2 => k_is); (case l2 => k_is); (case c2 => k_is); (case k2 => k_is); (case p3 => k_is); (case l3 => k_is); (case c3 => k_is); (case k3 => k_is); (case p4 => k_is); (case l4 => k_is); (case c4 => k_is); (case k4 => k_is); (case p5 => k_is); (case l5 => k_is); (case c5 => k_is); (case k5 => k_is); (case p6 => k_is); (case l6 => k_is); (case c6 => k_is); (case k6 => k_is); (case p7 => k_is); (case l7 => k_is); (case c7 => k_is); (case k7 => k_is); (case p8 => k_is); (case l8 => k_is); (case c8 => k_is); (case k8 => k_is); (case p9 => k_is); (case l9 => k_is); (case c9 => k_is); (case k9 => k_is); (case p10 => k_is); (case l10 => k_is); (case c10 => k_is); (case k10 => k_is); (case g0 => k_is); (case h0 => k_is); (case z_abs => k_is); (case z_int => k_is); (case z_len => k_is); (case z_list => k_is); (case z_sum => k_is); (case z_isinstance => k_is); (case z_bool => k_is); (case z_str => k_is); (case z_tuple => k_is); (case z_range => k_is); (case z_zip => k_is); (case z_enumerate => k_is); (case z_reversed => k_is); (case z_gcd => k_is)
