import PyProof.Rows.All
import Wide.All
import OpenK.AllK
import Wide.FinOn
import HandS.ForMost
import HandS.Style
import HandS.IsInst
import HandS.Wide
import HandS.Gcd
import HandS.Zip
import HandS.Flow
import HandS.Conv
import HandS.Replace
import HandS.SortInts
import HandS.Codes
import HandS.Text
import PyProof.StrOps2
import PyProof.SliceStr2
import KE.GoesEnum
import PyProof.ReprRoads
import HandS.WideMore
import PyProof.ReprText
import PyProof.FitsInt
import PySem.Challenge.RW_wordsweighed_k84_chosen_letters_and_lett
set_option Elab.async false
set_option linter.all false
set_option maxRecDepth 100000
namespace Ev
open PySem L2
/-- values as trees: a text by its codes, a dict by its keys and values, an object by its class, names, values -/
inductive T where
  | non | bl (b : Bool) | int (i : Int) | str (s : List Nat)
  | tup (xs : List T) | lst (xs : List T)
  | dct (ks vs : List T) | obj (c : Nat) (ns : List (List Nat)) (vs : List T)
/-- whose a tree's lists are: seen in a slot, shared for good, the outer list one's own, all lists one's own -/
inductive Own where
  | view (i : Nat) | cold | shal | full | flds (os : List Own)
mutual
/-- no list within -/
def T.nl : T → Bool
  | .non => true
  | .bl _ => true
  | .int _ => true
  | .str _ => true
  | .tup xs => nlL xs
  | .lst _ => false
  | .dct _ _ => false
  | .obj _ _ _ => false
def nlL : List T → Bool
  | [] => true
  | x :: xs => T.nl x && nlL xs
end
mutual
def T.depLe : Nat → T → Bool
  | _, .non => true
  | _, .bl _ => true
  | _, .int _ => true
  | _, .str _ => true
  | 0, .tup _ => false
  | 0, .lst _ => false
  | n + 1, .tup xs => depLeL n xs
  | n + 1, .lst xs => depLeL n xs
  | _, .dct _ _ => false
  | _, .obj _ _ _ => false
def depLeL : Nat → List T → Bool
  | _, [] => true
  | n, x :: xs => T.depLe n x && depLeL n xs
end
mutual
/-- Python's == of data -/
def eqT : T → T → Bool
  | .non, .non => true
  | .bl a, .bl b => a == b
  | .bl a, .int b => (if a then 1 else 0) == b
  | .int a, .bl b => a == (if b then 1 else 0)
  | .int a, .int b => a == b
  | .str a, .str b => a == b
  | .tup a, .tup b => eqTL a b
  | .lst a, .lst b => eqTL a b
  | _, _ => false
def eqTL : List T → List T → Bool
  | [], [] => true
  | x :: xs, y :: ys => eqT x y && eqTL xs ys
  | _, _ => false
end
abbrev Slot := Option (T × Own)
abbrev Env := List Slot
structure R where
  t : T
  o : Own
  ρ : Env
/-- operators -/
inductive BO | add | sub | mul | fdiv | mod | pow
inductive CO | eq | ne | lt | le | gt | ge | is | isn | mem | nmem
/-- built-in functions -/
inductive BF | len | abs | int | bool | str | list | tuple | sum | any | all | gcd | max2 | min2 | max | min | sorted | ord | chr | repr
deriving DecidableEq
/-- methods of texts and lists -/
inductive MF | sindex | join | split1 | lindex | scount | startswith | endswith
/-- classes for isinstance -/
inductive CT | int | bool | str | list | tuple
inductive Tg | nm (i : Nat) | tp (ts : List Tg)
inductive E where
  | int (i : Int) | bl (b : Bool) | non | str (s : List Nat)
  | var (i : Nat) | mov (i : Nat)
  | glob (x : List Nat)
  | bin (op : BO) (a b : E)
  | neg (a : E)
  | notv (a : E)
  | cmp (op : CO) (a b : E)
  | chain (op op' : CO) (a b c : E)
  | andv (es : List E) | orv (es : List E)
  | ife (c a b : E)
  | tup (es : List E) | lst (es : List E)
  | ix (a i : E)
  | sl (a : E) (lo hi : List E)
  | rev (a : E)
  | call (f : List Nat) (es : List E)
  | blt (f : BF) (es : List E)
  | isi (a : E) (c : CT)
  | meth (f : MF) (o : E) (es : List E)
  | lc (elt : E) (tg : Tg) (it : E) (ifs : List E) (own : List Nat)
  | lc2 (elt : E) (tg : Tg) (it : E) (ifs : List E) (tg1 : Tg) (it1 : E) (ifs1 : List E) (own vs1 : List Nat)
  -- what is walked
  | rng (es : List E) | zip (a b : E) | enum (a : E) | revd (a : E)
  -- a plain item behind places (the last place first) in a slot
  | pth (i : Nat) (kr : List E)
inductive S where
  | set (i : Nat) (e : E)
  | setc (i : Nat) (elt : E) (tg : Tg) (it : E) (ifs : List E) (own : List Nat)
  | asg (tg : Tg) (e : E)
  | par (i j : Nat) (a b : E)
  | aug (i : Nat) (op : BO) (e : E)
  | app (i : Nat) (ixs : List E) (e : E)
  | seti (i : Nat) (ixs : List E) (k : E) (e : E)
  -- if one of cs holds or f(i[ixs], j[jxs]) does not: return False; f changes what it is handed first
  | asr (cs : List E) (i : Nat) (ixs : List E) (f : List Nat) (j : Nat) (jxs : List E)
  | exp (e : E)
  | ret (e : E) | retN
  | ite (c : E) (a b : List S)
  | whl (c : E) (b : List S)
  | for_ (tg : Tg) (it : E) (b : List S)
  | pass | brk | cnt
def truth : T → Option Bool
  | .non => some false
  | .bl b => some b
  | .int i => some (i != 0)
  | .str s => some (!s.isEmpty)
  | .tup xs => some (!xs.isEmpty)
  | .lst xs => some (!xs.isEmpty)
  | .dct ks _ => some (!ks.isEmpty)
  | .obj _ _ _ => none
def binV : BO → T → T → Option T
  | .add, .int i, .int j => some (.int (i + j))
  | .add, .str x, .str y => if x.length + y.length ≤ sizeLine then some (.str (x ++ y)) else none
  | .add, .lst x, .lst y => if x.length + y.length ≤ sizeLine then some (.lst (x ++ y)) else none
  | .add, .tup x, .tup y => if x.length + y.length ≤ sizeLine ∧ x ≠ [] ∧ y ≠ [] then some (.tup (x ++ y)) else none
  | .sub, .int i, .int j => some (.int (i - j))
  | .mul, .int i, .int j => if i.natAbs.log2 + j.natAbs.log2 < 1000000 ∨ i.natAbs < 2 ^ 64 ∨ j.natAbs < 2 ^ 64 then some (.int (i * j)) else none
  | .mul, .lst x, .int k => if k.natAbs < 2 ^ 63 ∧ x.length * k.toNat ≤ sizeLine then some (.lst (List.replicate k.toNat x).flatten) else none
  | .mul, .str x, .int k => if k.natAbs < 2 ^ 62 ∧ x.length * k.toNat ≤ 8388608 then some (.str (List.replicate k.toNat x).flatten) else none
  | .fdiv, .int i, .int j => if 0 < j ∧ j.natAbs.log2 < 9000 then some (.int (i / j)) else if j < 0 ∧ j.natAbs < 1073741824 then some (.int (i.fdiv j)) else none
  | .mod, .int i, .int j => if 0 < j then some (.int (i % j)) else if j < 0 then some (.int (i.fmod j)) else none
  | .pow, .int i, .int j => if 0 ≤ j ∧ j ≤ 1000000 ∧ i.natAbs < 2 ^ 64 then some (.int (i ^ j.toNat)) else none
  | _, _, _ => none
/-- op= (numbers and texts alone: a list would be changed where it lies) -/
def augV : BO → T → T → Option T
  | .add, .int i, .int j => some (.int (i + j))
  | .add, .str x, .str y => if x.length + y.length ≤ sizeLine then some (.str (x ++ y)) else none
  | .sub, .int i, .int j => some (.int (i - j))
  | .mul, .int i, .int j => if i.natAbs < 2 ^ 64 ∨ j.natAbs < 2 ^ 64 then some (.int (i * j)) else none
  | .fdiv, .int i, .int j => if 0 < j ∧ j.natAbs.log2 < 9000 then some (.int (i / j)) else none
  | .mod, .int i, .int j => if 0 < j then some (.int (i % j)) else none
  | _, _, _ => none
def lexN (x y : List Nat) : Bool := decide (x < y)
def flatT : T → Bool
  | .non => true
  | .bl _ => true
  | .int _ => true
  | .str _ => true
  | _ => false
def memT (x : T) (xs : List T) : Bool := xs.any fun y => eqT y x
def isNon : T → Bool
  | .non => true
  | _ => false
def memV (x : T) : T → Option Bool
  | .lst ys => if flatT x && ys.all flatT then some (memT x ys) else none
  | .tup ys => if flatT x && ys.all flatT then some (memT x ys) else none
  | .str ys => match x with
    | .str [c] => some (ys.contains c)
    | _ => none
  | _ => none
def cmpV : CO → T → T → Option Bool
  | .eq, a, b => if T.depLe 64 a && T.depLe 64 b then some (eqT a b) else none
  | .ne, a, b => if T.depLe 64 a && T.depLe 64 b then some (!eqT a b) else none
  | .lt, .int i, .int j => some (decide (i < j))
  | .le, .int i, .int j => some (decide (i ≤ j))
  | .gt, .int i, .int j => some (decide (j < i))
  | .ge, .int i, .int j => some (decide (j ≤ i))
  | .lt, .str i, .str j => some (lexN i j)
  | .is, a, .non => some (isNon a)
  | .isn, a, .non => some (!isNon a)
  | .mem, a, b => memV a b
  | .nmem, a, b => (memV a b).map (!·)
  | _, _, _ => none
def cutT (xs : List α) (lo hi : Option Int) : List α := (xs.drop (HT.sIx xs.length 0 lo)).take (HT.sIx xs.length xs.length hi - HT.sIx xs.length 0 lo)
def slV (lo hi : Option Int) : T → Option T
  | .lst xs => some (.lst (cutT xs lo hi))
  | .str s => some (.str (cutT s lo hi))
  | .tup xs => if (cutT xs lo hi).length = xs.length then none else some (.tup (cutT xs lo hi))
  | _ => none
def ixV : T → T → Option T
  | .lst xs, .int i => atI xs i
  | .tup xs, .int i => atI xs i
  | .str s, .int i => (atI s i).map fun c => .str [c]
  | _, _ => none
def revV : T → Option T
  | .lst xs => some (.lst xs.reverse)
  | .str s => some (.str s.reverse)
  | _ => none
def intsV : List T → Option (List Int)
  | [] => some []
  | .int i :: r => (intsV r).map (i :: ·)
  | _ :: _ => none
def blsV : List T → Option (List Bool)
  | [] => some []
  | .bl i :: r => (blsV r).map (i :: ·)
  | _ :: _ => none
def strsV : List T → Option (List (List Nat))
  | [] => some []
  | .str i :: r => (strsV r).map (i :: ·)
  | _ :: _ => none
def maxL : List Int → Int
  | [] => 0
  | [x] => x
  | x :: r => if maxL r < x then x else maxL r
def minL : List Int → Int
  | [] => 0
  | [x] => x
  | x :: r => if x < minL r then x else minL r
mutual
/-- a tree as the kit's data -/
def pyOf : T → PyData
  | .non => .none
  | .bl b => .bool b
  | .int i => .int i
  | .str s => .str ⟨s.toArray⟩
  | .tup xs => .tuple (pyOfL xs)
  | .lst xs => .list (pyOfL xs)
  | .dct _ _ => .none
  | .obj _ _ _ => .none
def pyOfL : List T → List PyData
  | [] => []
  | x :: xs => pyOf x :: pyOfL xs
end
def reprD (d : PyData) : Option (List Nat) :=
  if d.showable && decide (d.depth ≤ 64) && decide (d.shown.length ≤ sizeLine) && (d.shown.cps.toList.all fun c => decide (c < 128)) then some d.shown.cps.toList else none
/-- repr of a tuple or a list -/
def reprS : T → Option (List Nat)
  | .tup xs => reprD (pyOf (.tup xs))
  | .lst xs => reprD (pyOf (.lst xs))
  | _ => none
def bltV : BF → List T → Option T
  | .len, [.lst xs] => some (.int xs.length)
  | .len, [.tup xs] => some (.int xs.length)
  | .len, [.str s] => some (.int s.length)
  | .abs, [.int i] => some (.int (if i < 0 then -i else i))
  | .int, [.int i] => some (.int i)
  | .int, [.bl b] => some (.int (if b then 1 else 0))
  | .bool, [.int i] => some (.bl (i != 0))
  | .bool, [.bl b] => some (.bl b)
  | .list, [.lst xs] => some (.lst xs)
  | .list, [.tup xs] => some (.lst xs)
  | .tuple, [.lst xs] => some (.tup xs)
  | .sum, [.lst xs] => (intsV xs).map fun ns => .int ns.sum
  | .any, [.lst xs] => (blsV xs).map fun bs => .bl (bs.any id)
  | .all, [.lst xs] => (blsV xs).map fun bs => .bl (bs.all id)
  | .gcd, [.int a, .int b] => some (.int ((Nat.gcd a.natAbs b.natAbs : Nat) : Int))
  | .max2, [.int i, .int j] => some (.int (if j > i then j else i))
  | .min2, [.int i, .int j] => some (.int (if j < i then j else i))
  | .max, [.lst xs] => (intsV xs).bind fun ns => if ns.length = 0 then none else some (.int (maxL ns))
  | .min, [.lst xs] => (intsV xs).bind fun ns => if ns.length = 0 then none else some (.int (minL ns))
  | .sorted, [.lst xs] => (intsV xs).map fun ns => .lst ((ns.mergeSort fun a b => decide (a ≤ b)).map .int)
  | .ord, [.str [c]] => some (.int c)
  | .repr, [t] => (reprS t).map .str
  | _, _ => none
def isiV : CT → T → Bool
  | .int, .int _ => true
  | .int, .bl _ => true
  | .bool, .bl _ => true
  | .str, .str _ => true
  | .list, .lst _ => true
  | .tuple, .tup _ => true
  | _, _ => false
def joinN (a : List Nat) : List (List Nat) → List Nat
  | [] => []
  | [p] => p
  | p :: q :: r => p ++ (a ++ joinN a (q :: r))
def methV : MF → T → List T → Option T
  | .lindex, .lst xs, [y] => if flatT y && xs.all flatT then (xs.findIdx? fun z => eqT z y).map fun j => .int (j : Nat) else none
  | .sindex, .str s, [.str [c]] => (s.findIdx? (· == c)).map fun j => .int (j : Nat)
  | .join, .str a, [.lst ys] => (strsV ys).bind fun ss => if (ss.map List.length).sum + ss.length * a.length ≤ 16777216 then some (.str (joinN a ss)) else none
  | _, _, _ => none
/-- the items that are walked -/
def itemsV : T → Option (List T)
  | .lst xs => some xs
  | .tup xs => some xs
  | .str s => some (s.map fun c => .str [c])
  | _ => none
def rngV : List T → Option (List T)
  | [.int j] => if j.natAbs < 2 ^ 62 then some ((List.range j.toNat).map fun i => .int (i : Nat)) else none
  | [.int i, .int j] => if i.natAbs < 2 ^ 62 ∧ j.natAbs < 2 ^ 62 then some ((List.range (j - i).toNat).map fun k => .int (i + (k : Nat))) else none
  | [.int i, .int j, .int (-1)] => if i.natAbs < 2 ^ 62 ∧ j.natAbs < 2 ^ 62 then some ((List.range (i - j).toNat).map fun k => .int (i - (k : Nat))) else none
  | _ => none
/-- as a value to be kept -/
def val (r : R) : Option R := match r.o with
  | .view i => match r.ρ[i]? with
    | some (some (t, _)) => some ⟨t, .cold, r.ρ.set i (some (t, .cold))⟩
    | _ => none
  | _ => some r
def mk (t : T) (o : Own) (ρ : Env) : R := if t.nl then ⟨t, .full, ρ⟩ else ⟨t, o, ρ⟩
def Own.isFull : Own → Bool
  | .full => true
  | _ => false
/-- a new list of such items -/
def minO (a b : Own) : Own := if a.isFull && b.isFull then .full else .shal
def kidO (o : Own) : Own := match o with
  | .full => .full
  | _ => .cold
/- store into a target -/
mutual
def bindT : Tg → T → Own → Env → Option Env
  | .nm i, t, o, ρ => if i < ρ.length then some (ρ.set i (some (t, if t.nl then .full else o))) else none
  | .tp ts, .tup xs, o, ρ => bindTs ts xs (kidO o) ρ
  | .tp _, _, _, _ => none
def bindTs : List Tg → List T → Own → Env → Option Env
  | [], [], _, ρ => some ρ
  | g :: gs, x :: xs, o, ρ => (bindT g x o ρ).bind fun ρ' => bindTs gs xs o ρ'
  | _, _, _, _ => none
end
def wipeE : List Nat → Env → Env
  | [], ρ => ρ
  | i :: is, ρ => (wipeE is ρ).set i none
/-- the slots of a comprehension's own names, as they stood ahead of it (numbers, texts, tuples of them) -/
def backE (ρ₀ : Env) : List Nat → Env → Env
  | [], ρ => ρ
  | i :: is, ρ => backE ρ₀ is (match ρ₀[i]? with
    | some (some (t, .full)) => if t.nl then ρ.set i (some (t, .full)) else ρ.set i none
    | _ => ρ.set i none)
/-- a comprehension's turns -/
def lcLoop (own : List Nat) (bind : T → Env → Option Env) (tests : Env → Option (Bool × Env)) (elt : Env → Option R) : List T → List T → Own → Env → Option (List T × Own × Env)
  | [], acc, o, ρ => some (acc, o, wipeE own ρ)
  | x :: xs, acc, o, ρ => (bind x (wipeE own ρ)).bind fun ρ1 => (tests ρ1).bind fun bρ =>
    if bρ.1 then (elt bρ.2).bind fun r => if acc.length < sizeLine then lcLoop own bind tests elt xs (acc ++ [r.t]) (minO o r.o) r.ρ else none
    else lcLoop own bind tests elt xs acc o bρ.2
/-- a tree that was seen in a slot, as it stands there now; its lists are shared from now on -/
def reT (t : T) (o : Own) (ρ : Env) : Option (T × Env) := match o with
  | .view i => match ρ[i]? with
    | some (some (t', _)) => some (t', ρ.set i (some (t', .cold)))
    | _ => none
  | _ => some (t, ρ)
/-- behind an operation g whose answer may share the items of what it was made of -/
def shareR1 (g : T → Option T) (t : T) (o : Own) (ρ : Env) : Option R :=
  (g t).bind fun y => if y.nl then some ⟨y, .full, ρ⟩ else match y with
    | .lst ys => if nlL ys then some ⟨y, .full, ρ⟩ else (reT t o ρ).bind fun x => (g x.1).bind fun z => match z with
      | .lst zs => some ⟨.lst zs, .shal, x.2⟩
      | _ => none
    | _ => (reT t o ρ).bind fun x => (g x.1).bind fun z => match z with
      | .tup zs => some ⟨.tup zs, .cold, x.2⟩
      | _ => none
def shareR2 (g : T → T → Option T) (t : T) (o : Own) (u : T) (q : Own) (ρ : Env) : Option R :=
  (g t u).bind fun y => if y.nl then some ⟨y, .full, ρ⟩ else match y with
    | .lst ys => if nlL ys then some ⟨y, .full, ρ⟩ else (reT t o ρ).bind fun x => (reT u q x.2).bind fun x' => (g x.1 x'.1).bind fun z => match z with
      | .lst zs => some ⟨.lst zs, .shal, x'.2⟩
      | _ => none
    | _ => (reT t o ρ).bind fun x => (reT u q x.2).bind fun x' => (g x.1 x'.1).bind fun z => match z with
      | .tup zs => some ⟨.tup zs, .cold, x'.2⟩
      | _ => none
/-- a list is repeated only where no list is within -/
def repOk : BO → T → Own → Bool
  | .mul, .lst xs, _ => nlL xs
  | _, _, _ => true
/-- two lists, both one's own, put together: one's own -/
def addFull : BO → T → Own → T → Own → Bool
  | .add, .lst _, .full, .lst _, .full => true
  | _, _, _, _, _ => false
def binR (op : BO) (t : T) (o : Own) (u : T) (q : Own) (ρ : Env) : Option R :=
  if addFull op t o u q then (binV op t u).map fun y => ⟨y, .full, ρ⟩ else shareR2 (binV op) t o u q ρ
/-- an item of something -/
def pickR (g : T → Option T) (t : T) (o : Own) (ρ : Env) : Option R :=
  (g t).bind fun y => if y.nl then some ⟨y, .full, ρ⟩ else (reT t o ρ).bind fun x => (g x.1).map fun z => ⟨z, .cold, x.2⟩
def reL : List T → List Own → Env → Option (List T × Env)
  | [], [], ρ => some ([], ρ)
  | t :: ts, o :: os, ρ => (reT t o ρ).bind fun x => (reL ts os x.2).map fun y => (x.1 :: y.1, y.2)
  | _, _, _ => none
/-- a built-in's answer -/
def shareB (g : List T → Option T) (ts : List T) (os : List Own) (ρ : Env) : Option R := match ts, os with
  | [t], [o] => shareR1 (fun x => g [x]) t o ρ
  | _, _ => (g ts).bind fun y => if y.nl then some ⟨y, .full, ρ⟩ else none
/-- what an expression means: its value, its truth, what is walked -/
structure Den where
  c : Bool
  v : Env → Option R
  t : Env → Option (Bool × Env)
  i : Env → Option (List T × Env)
def tOf (v : Env → Option R) (ρ : Env) : Option (Bool × Env) := (v ρ).bind fun r => (truth r.t).map fun k => (k, r.ρ)
def iOf (v : Env → Option R) (ρ : Env) : Option (List T × Env) := (v ρ).bind fun ra => (reT ra.t ra.o ra.ρ).bind fun x => (itemsV x.1).map fun xs => (xs, x.2)
def valD (c : Bool) (v : Env → Option R) : Den := ⟨c, v, tOf v, iOf v⟩
def tstD (c : Bool) (v : Env → Option R) (t : Env → Option (Bool × Env)) : Den := ⟨c, v, t, iOf v⟩
def itD (c : Bool) (i : Env → Option (List T × Env)) : Den := ⟨c, fun _ => none, fun _ => none, i⟩
/-- whether a comprehension stands in one of them -/
def anyC : List Den → Bool
  | [] => false
  | d :: ds => d.c || anyC ds
/-- where a comprehension comes, what was seen is shared first -/
def vo (c : Bool) (r : R) : Option R := if c then val r else some r
/-- values to be kept, from the left; whether all are one's own -/
def evL : List Den → Env → Option (List T × Own × Env)
  | [], ρ => some ([], .full, ρ)
  | e :: es, ρ => (e.v ρ).bind fun r0 => (val r0).bind fun r => (evL es r.ρ).map fun x => (r.t :: x.1, minO r.o x.2.1, x.2.2)
/-- values that are only seen, from the left -/
def evV : List Den → Env → Option (List T × List Own × Env)
  | [], ρ => some ([], [], ρ)
  | e :: es, ρ => (e.v ρ).bind fun r0 => (vo (anyC es) r0).bind fun r => (evV es r.ρ).map fun x => (r.t :: x.1, r.o :: x.2.1, x.2.2)
def evTs : List Den → Env → Option (Bool × Env)
  | [], ρ => some (true, ρ)
  | [c], ρ => c.t ρ
  | _, _ => none
def andVals : List Den → Env → Option R
  | [], _ => none
  | [d], ρ => d.v ρ
  | d :: ds, ρ => (d.v ρ).bind fun r => match r.t with
    | .bl true => andVals ds r.ρ
    | .bl false => some ⟨.bl false, .full, r.ρ⟩
    | _ => none
def orVals : List Den → Env → Option R
  | [], _ => none
  | [d], ρ => d.v ρ
  | d :: ds, ρ => (d.v ρ).bind fun r => match r.t with
    | .bl false => orVals ds r.ρ
    | .bl true => some ⟨.bl true, .full, r.ρ⟩
    | _ => none
def andTs : List Den → Env → Option (Bool × Env)
  | [], _ => none
  | [d], ρ => d.t ρ
  | d :: ds, ρ => (d.t ρ).bind fun k => if k.1 then andTs ds k.2 else some (false, k.2)
def orTs : List Den → Env → Option (Bool × Env)
  | [], _ => none
  | [d], ρ => d.t ρ
  | d :: ds, ρ => (d.t ρ).bind fun k => if k.1 then some (true, k.2) else orTs ds k.2
/-- an end of a slice -/
def evO : List Den → Env → Option (Option Int × Env)
  | [], ρ => some (none, ρ)
  | [d], ρ => (d.v ρ).bind fun r => match r.t with
    | .int i => some (some i, r.ρ)
    | _ => none
  | _, _ => none
def evIs : List Den → Env → Option (List Int × Env)
  | [], ρ => some ([], ρ)
  | e :: es, ρ => (e.v ρ).bind fun r => match r.t with
    | .int k => (evIs es r.ρ).map fun x => (k :: x.1, x.2)
    | _ => none
/-- the item behind places -/
def getP : List Int → T → Option T
  | [], t => some t
  | k :: ks, .lst xs => (atI xs k).bind (getP ks)
  | k :: ks, .tup xs => (atI xs k).bind (getP ks)
  | _ :: _, _ => none
section
variable (G : List Nat → Option T) (C : List Nat → List T → Option (T × Own))
mutual
def den : E → Den
  | .int i => valD false fun ρ => some ⟨.int i, .full, ρ⟩
  | .bl b => valD false fun ρ => some ⟨.bl b, .full, ρ⟩
  | .non => valD false fun ρ => some ⟨.non, .full, ρ⟩
  | .str s => valD false fun ρ => some ⟨.str s, .full, ρ⟩
  | .var i => valD false fun ρ => match ρ[i]? with
    | some (some (t, _)) => some (if t.nl then ⟨t, .full, ρ⟩ else ⟨t, .view i, ρ⟩)
    | _ => none
  | .mov i => valD false fun ρ => match ρ[i]? with
    | some (some (t, o)) => some (if t.nl then ⟨t, .full, ρ⟩ else ⟨t, o, ρ.set i none⟩)
    | _ => none
  | .glob x => valD false fun ρ => (G x).map fun t => mk t .cold ρ
  | .bin op a b => valD ((den a).c || (den b).c) fun ρ => ((den a).v ρ).bind fun r0 => (vo (den b).c r0).bind fun ra => ((den b).v ra.ρ).bind fun rb => if repOk op ra.t ra.o then binR op ra.t ra.o rb.t rb.o rb.ρ else none
  | .neg a => valD (den a).c fun ρ => ((den a).v ρ).bind fun ra => match ra.t with
    | .int i => some ⟨.int (-i), .full, ra.ρ⟩
    | _ => none
  | .notv a => tstD (den a).c (fun ρ => ((den a).v ρ).bind fun r => (truth r.t).map fun b => ⟨.bl (!b), .full, r.ρ⟩) (fun ρ => ((den a).t ρ).map fun k => (!k.1, k.2))
  | .cmp op a b => valD ((den a).c || (den b).c) fun ρ => ((den a).v ρ).bind fun r0 => (vo (den b).c r0).bind fun ra => ((den b).v ra.ρ).bind fun rb => (cmpV op ra.t rb.t).map fun k => ⟨.bl k, .full, rb.ρ⟩
  | .chain op op' a b c => valD ((den a).c || ((den b).c || (den c).c)) fun ρ => ((den a).v ρ).bind fun r0 => (vo ((den b).c || (den c).c) r0).bind fun ra => ((den b).v ra.ρ).bind fun r1 => (vo (den c).c r1).bind fun rb => (cmpV op ra.t rb.t).bind fun k =>
    if k then ((den c).v rb.ρ).bind fun rc => (cmpV op' rb.t rc.t).map fun k' => ⟨.bl k', .full, rc.ρ⟩ else some ⟨.bl false, .full, rb.ρ⟩
  | .andv es => tstD (anyC (denL es)) (andVals (denL es)) (andTs (denL es))
  | .orv es => tstD (anyC (denL es)) (orVals (denL es)) (orTs (denL es))
  | .ife c a b => tstD ((den c).c || ((den a).c || (den b).c)) (fun ρ => ((den c).t ρ).bind fun k => if k.1 then ((den a).v k.2).bind val else ((den b).v k.2).bind val) (fun _ => none)
  | .tup es => valD (anyC (denL es)) fun ρ => (evL (denL es) ρ).bind fun x => if x.1.length ≤ sizeLine then some (mk (.tup x.1) (kidO x.2.1) x.2.2) else none
  | .lst es => valD (anyC (denL es)) fun ρ => (evL (denL es) ρ).bind fun x => if x.1.length ≤ sizeLine then some ⟨.lst x.1, x.2.1, x.2.2⟩ else none
  | .ix a i => valD ((den a).c || (den i).c) fun ρ => ((den a).v ρ).bind fun r0 => (vo (den i).c r0).bind fun ra => ((den i).v ra.ρ).bind fun ri => pickR (fun x => ixV x ri.t) ra.t ra.o ri.ρ
  | .sl a lo hi => valD ((den a).c || (anyC (denL lo) || anyC (denL hi))) fun ρ => ((den a).v ρ).bind fun r0 => (vo (anyC (denL lo) || anyC (denL hi)) r0).bind fun ra => (evO (denL lo) ra.ρ).bind fun rl => (evO (denL hi) rl.2).bind fun rh => shareR1 (slV rl.1 rh.1) ra.t ra.o rh.2
  | .rev a => valD (den a).c fun ρ => ((den a).v ρ).bind fun ra => shareR1 revV ra.t ra.o ra.ρ
  | .call f es => valD (anyC (denL es)) fun ρ => (evV (denL es) ρ).bind fun x => (reL x.1 x.2.1 x.2.2).bind fun z => (C f z.1).map fun y => if y.2.isFull then ⟨y.1, .full, x.2.2⟩ else ⟨y.1, y.2, z.2⟩
  | .blt f es => valD (anyC (denL es)) fun ρ => (evV (denL es) ρ).bind fun x => shareB (bltV f) x.1 x.2.1 x.2.2
  | .isi a c => valD (den a).c fun ρ => ((den a).v ρ).map fun ra => ⟨.bl (isiV c ra.t), .full, ra.ρ⟩
  | .meth f a es => valD ((den a).c || anyC (denL es)) fun ρ => ((den a).v ρ).bind fun r0 => (vo (anyC (denL es)) r0).bind fun ra => (evV (denL es) ra.ρ).bind fun x => (methV f ra.t x.1).bind fun t => if t.nl then some ⟨t, .full, x.2.2⟩ else none
  | .lc elt tg it ifs own => valD true fun ρ => ((den it).i ρ).bind fun x =>
    (lcLoop own (fun x ρ => bindT tg x .cold ρ) (fun ρ => evTs (denL ifs) ρ) (fun ρ => ((den elt).v ρ).bind val) x.1 [] .full x.2).map fun y => ⟨.lst y.1, y.2.1, backE x.2 own y.2.2⟩
  | .lc2 _ _ _ _ _ _ _ _ _ => valD true fun _ => none
  | .rng es => itD (anyC (denL es)) fun ρ => (evV (denL es) ρ).bind fun x => (rngV x.1).map fun xs => (xs, x.2.2)
  | .zip a b => itD ((den a).c || (den b).c) fun ρ => ((den a).v ρ).bind fun r0 => (vo (den b).c r0).bind fun ra => ((den b).v ra.ρ).bind fun rb => (reT ra.t ra.o rb.ρ).bind fun x => (reT rb.t rb.o x.2).bind fun y => match x.1, y.1 with
    | .lst xs, .lst ys => some ((xs.zip ys).map fun p => .tup [p.1, p.2], y.2)
    | .str xs, .str ys => some ((xs.zip ys).map fun p => .tup [.str [p.1], .str [p.2]], y.2)
    | _, _ => none
  | .enum a => itD (den a).c fun ρ => ((den a).v ρ).bind fun ra => (reT ra.t ra.o ra.ρ).bind fun x => match x.1 with
    | .lst xs => some (xs.zipIdx.map fun p => .tup [.int (p.2 : Nat), p.1], x.2)
    | _ => none
  | .revd a => itD (den a).c fun ρ => ((den a).v ρ).bind fun ra => (reT ra.t ra.o ra.ρ).bind fun x => match x.1 with
    | .lst xs => some (xs.reverse, x.2)
    | _ => none
  | .pth i kr => valD (anyC (denL kr)) fun ρ => match ρ[i]? with
    | some (some (t, _)) => (evIs (denL kr).reverse ρ).bind fun x => (getP x.1 t).bind fun z => if z.nl then some ⟨z, .full, ρ⟩ else none
    | _ => none
def denL : List E → List Den
  | [] => []
  | e :: es => den e :: denL es
end
end
/-- a def's name where it is run on an argument of its own that it changes -/
def isOwn (f : List Nat) : Bool := f.head? == some 0
def orF : List Den → Env → Option (Bool × Env)
  | [], ρ => some (false, ρ)
  | d :: ds, ρ => (d.t ρ).bind fun k => if k.1 then some (true, k.2) else orF ds k.2
inductive Fl where
  | nx (ρ : Env) | rt (t : T) (o : Own) | bk (ρ : Env) | ct (ρ : Env)
/-- behind a turn -/
def Fl.turn (f : Fl) (k : Env → Option Fl) : Option Fl := match f with
  | .nx ρ => k ρ
  | .ct ρ => k ρ
  | .bk ρ => some (.nx ρ)
  | .rt t o => some (.rt t o)
def Fl.seq (f : Fl) (k : Env → Option Fl) : Option Fl := match f with
  | .nx ρ => k ρ
  | f => some f
def forLoop (bind : T → Env → Option Env) (body : Env → Option Fl) : List T → Env → Option Fl
  | [], ρ => some (.nx ρ)
  | x :: xs, ρ => (bind x ρ).bind fun ρ1 => (body ρ1).bind fun f => f.turn (forLoop bind body xs)
def whlLoop (test : Env → Option (Bool × Env)) (body : Env → Option Fl) : Nat → Env → Option Fl
  | 0, _ => none
  | n + 1, ρ => (test ρ).bind fun k => if k.1 then (body k.2).bind fun f => f.turn (whlLoop test body n) else some (.nx k.2)
/-- the turns that a while may take -/
def whlMost : Nat := 1000000000
/-- a place within a tree -/
def modAt (f : T → Option T) : List Int → T → Option T
  | [], t => f t
  | k :: ks, .lst xs => (ixN xs.length k).bind fun j => (xs[j]?).bind fun x => (modAt f ks x).map fun y => .lst (xs.set j y)
  | k :: ks, .tup xs => (ixN xs.length k).bind fun j => (xs[j]?).bind fun x => (modAt f ks x).map fun y => .tup (xs.set j y)
  | _, _ => none
def appV (y : T) : T → Option T
  | .lst xs => if xs.length < sizeLine then some (.lst (xs ++ [y])) else none
  | _ => none
def setV (k : Int) (y : T) : T → Option T
  | .lst xs => (ixN xs.length k).map fun j => .lst (xs.set j y)
  | _ => none
/-- what an append may begin at -/
def rootOk : List E → T → Bool
  | [], .lst _ => true
  | [], _ => false
  | _ :: _, _ => true
/-- whose a changed tree is: (deep: below the slot's own list) -/
def modO (deep : Bool) (t : T) (o oy : Own) : Option Own :=
  match o with
  | .full => if oy.isFull then some .full else if deep then none else match t with
    | .lst _ => some .shal
    | _ => none
  | .shal => if deep then none else some .shal
  | _ => none
def modS (i : Nat) (ks : List Int) (f : T → Option T) (oy : Own) (ρ : Env) : Option Env := match ρ[i]? with
  | some (some (t, o)) => (modAt f ks t).bind fun t' => (modO (!ks.isEmpty) t o oy).map fun o' => ρ.set i (some (t', o'))
  | _ => none
/-- what a call makes of a tree of one's own behind places of slot i -/
def ownR (C : List Nat → List T → Option (T × Own)) (i : Nat) (ks : List Int) (f : List Nat) (j : Nat) (ls : List Int) (ρ : Env) : Option (Bool × Env) := match ρ[i]?, ρ[j]? with
  | some (some (t, .full)), some (some (u, _)) => if i = j then none else (getP ks t).bind fun t0 => (getP ls u).bind fun u0 => (C (0 :: f) [t0, u0]).bind fun y => match y with
    | (.tup [.bl b, t1], .full) => (modAt (fun _ => some t1) ks t).map fun t2 => (b, (ρ.set j (some (u, .cold))).set i (some (t2, .full)))
    | _ => none
  | _, _ => none
section
variable (G : List Nat → Option T) (C : List Nat → List T → Option (T × Own))
mutual
def exS : S → Env → Option Fl
  | .set i e, ρ => ((den G C e).v ρ).bind fun r0 => (val r0).bind fun r => (bindT (.nm i) r.t r.o r.ρ).map .nx
  | .setc i elt tg it ifs own, ρ => ((den G C (.lc elt tg it ifs own)).v ρ).bind fun r => (bindT (.nm i) r.t r.o r.ρ).map .nx
  | .asg tg e, ρ => ((den G C e).v ρ).bind fun r0 => (val r0).bind fun r => (bindT tg r.t r.o r.ρ).map .nx
  | .par i j a b, ρ => ((den G C a).v ρ).bind fun a0 => (val a0).bind fun ra => ((den G C b).v ra.ρ).bind fun b0 => (val b0).bind fun rb =>
    (bindT (.nm i) ra.t ra.o rb.ρ).bind fun ρ' => (bindT (.nm j) rb.t rb.o ρ').map .nx
  | .aug i op e, ρ => match ρ[i]? with
    | some (some (t, _)) => ((den G C e).v ρ).bind fun r => (augV op t r.t).bind fun t' => (bindT (.nm i) t' .full r.ρ).map .nx
    | _ => none
  | .app i ixs e, ρ => match ρ[i]? with
    | some (some (t, _)) => if rootOk ixs t = false then none else (evIs (denL G C ixs) ρ).bind fun ks => ((den G C e).v ks.2).bind fun r0 => (val r0).bind fun r => (modS i ks.1 (appV r.t) r.o r.ρ).map .nx
    | _ => none
  | .seti i ixs k e, ρ => ((den G C e).v ρ).bind fun r0 => (val r0).bind fun r => match r.ρ[i]? with
    | some (some _) => (evIs (denL G C ixs) r.ρ).bind fun ks => ((den G C k).v ks.2).bind fun rk => match rk.t with
      | .int k => (modS i ks.1 (setV k r.t) r.o rk.ρ).map .nx
      | _ => none
    | _ => none
  | .asr cs i ixs f j jxs, ρ => (orF (denL G C cs) ρ).bind fun k => if k.1 then some (.rt (.bl false) .full) else
    (evIs (denL G C ixs) k.2).bind fun ks => (evIs (denL G C jxs) ks.2).bind fun ls => (ownR C i ks.1 f j ls.1 ls.2).bind fun r => if r.1 then some (.nx r.2) else some (.rt (.bl false) .full)
  | .exp e, ρ => ((den G C e).v ρ).map fun r => .nx r.ρ
  | .ret e, ρ => ((den G C e).v ρ).bind fun r0 => (val r0).map fun r => .rt r.t r.o
  | .retN, _ => some (.rt .non .full)
  | .ite c a b, ρ => ((den G C c).t ρ).bind fun k => if k.1 then exSs a k.2 else exSs b k.2
  | .whl c b, ρ => whlLoop (den G C c).t (exSs b) whlMost ρ
  | .for_ tg it b, ρ => ((den G C it).i ρ).bind fun x => forLoop (fun x ρ => bindT tg x .cold ρ) (exSs b) x.1 x.2
  | .pass, ρ => some (.nx ρ)
  | .brk, ρ => some (.bk ρ)
  | .cnt, ρ => some (.ct ρ)
def exSs : List S → Env → Option Fl
  | [], ρ => some (.nx ρ)
  | s :: ss, ρ => (exS s ρ).bind fun f => f.seq (exSs ss)
end
end
/-- a def: its parameters, its slots, its body -/
structure Fn where
  np : Nat
  ns : Nat
  body : List S
/-- arguments in their slots -/
def startE (n : Nat) (ts : List T) : Env := (ts.map fun t => some (t, if t.nl then .full else .cold)) ++ List.replicate (n - ts.length) none
def callN (G : List Nat → Option T) (F : List Nat → Option Fn) : Nat → List Nat → List T → Option (T × Own)
  | 0, _, _ => none
  | n + 1, f, ts => (F f).bind fun d => if ts.length = d.np then (exSs G (callN G F n) d.body (startE d.ns ts)).bind fun
    | .nx _ => some (.non, .full)
    | .rt t o => some (t, o)
    | _ => none
    else none
end Ev
namespace Ev
open PySem PySem.Spec PyProof.Rows L2
def kidR : Own → Own
  | .full => .full
  | .view i => .view i
  | _ => .cold
def Own.isView : Own → Bool
  | .view _ => true
  | _ => false
def Ascii (s : List Nat) : Prop := s.length ≤ sizeLine ∧ ∀ c ∈ s, c < 128
/-- a list at a under a claim, with the address that is one's own -/
def LstAt (_K : PySem.W.Frag) (F H : Hp) : Own → Addr → List V → List Addr → Prop
  | .view _, a, vs, hd => Rd H a (.lst vs) ∧ hd = []
  | .cold, a, vs, hd => Rd F a (.lst vs) ∧ hd = []
  | .shal, a, vs, hd => H a = some (.lst vs) ∧ F a = none ∧ hd = [a]
  | .full, a, vs, hd => H a = some (.lst vs) ∧ F a = none ∧ hd = [a]
  | .flds _, _, _, _ => False
section
variable (K : PySem.W.Frag) (F H : Hp)
mutual
/-- the value v stands for the tree t, under the claim o, with one's own addresses fp -/
def Rp : Own → T → V → List Addr → Prop
  | _, .non, v, fp => v = .non ∧ fp = []
  | _, .bl b, v, fp => v = .bl b ∧ fp = []
  | _, .int i, v, fp => v = .int i ∧ fp = []
  | _, .str s, v, fp => v = .str ⟨s.toArray⟩ ∧ fp = [] ∧ Ascii s
  | o, .tup xs, v, fp => ∃ a vs, v = .ref a ∧ SqT K H a vs ∧ RpL (kidR o) xs vs fp
  | o, .lst xs, v, fp => ∃ a vs hd fp', v = .ref a ∧ LstAt K F H o a vs hd ∧ RpL (kidR o) xs vs fp' ∧ fp = hd ++ fp'
  | _, .dct _ _, _, _ => False
  | _, .obj _ _ _, _, _ => False
def RpL : Own → List T → List V → List Addr → Prop
  | _, [], [], fp => fp = []
  | o, x :: xs, v :: vs, fp => ∃ f1 f2, Rp o x v f1 ∧ RpL o xs vs f2 ∧ fp = f1 ++ f2
  | _, _, _, _ => False
end
end
section
variable {K : PySem.W.Frag} {F H F' H' : Hp}
theorem kidR_kidR (o : Own) : kidR (kidR o) = kidR o := by cases o <;> rfl
theorem RpL.len : ∀ {o : Own} {xs : List T} {vs : List V} {fp : List Addr}, RpL K F H o xs vs fp → xs.length = vs.length
  | _, [], [], _, _ => rfl
  | _, _ :: xs, _ :: vs, _, h => by
    simp only [RpL] at h
    obtain ⟨f1, f2, _, h2, _⟩ := h
    simp [RpL.len h2]
  | _, [], _ :: _, _, h => by simp [RpL] at h
  | _, _ :: _, [], _, h => by simp [RpL] at h
theorem SqL.mono {K : PySem.W.Frag} {H H' : Hp} {a : Addr} {xs : List V} (e : ∀ u, Rd H a u → Rd H' a u) (h : SqL K H a xs) : SqL K H' a xs := h.imp (e _) id
theorem SqT.mono {K : PySem.W.Frag} {H H' : Hp} {a : Addr} {xs : List V} (e : ∀ u, Rd H a u → Rd H' a u) (h : SqT K H a xs) : SqT K H' a xs := h.imp (e _) id
theorem Same.rd (s : Same H H') {a : Addr} {u : HO} : Rd H a u → Rd H' a u
  | .inl h => .inl (s _ _ h)
  | .inr ⟨o, h⟩ => .inr ⟨o, s _ _ h⟩
/-- what must stay for a tree to stay -/
structure Keep (K : PySem.W.Frag) (F H F' H' : Hp) (view : Bool) (fp : List Addr) : Prop where
  fr : Same F F'
  tp : ∀ a xs, SqT K H a xs → SqT K H' a xs
  ow : ∀ a ∈ fp, (∀ o, H a = some o → H' a = some o) ∧ F' a = none
  vw : view = true → Same H H'
theorem Keep.sub {b : Bool} {fp fq : List Addr} (k : Keep K F H F' H' b fp) (h : ∀ a ∈ fq, a ∈ fp) : Keep K F H F' H' b fq :=
  ⟨k.fr, k.tp, fun a m => k.ow a (h a m), k.vw⟩
theorem kidR_view (o : Own) : (kidR o).isView = o.isView := by cases o <;> rfl
theorem LstAt.keep {o : Own} {a : Addr} {vs : List V} {hd : List Addr} (k : Keep K F H F' H' o.isView hd) (h : LstAt K F H o a vs hd) : LstAt K F' H' o a vs hd := by
  cases o with
  | view i => exact ⟨Same.rd (k.vw rfl) h.1, h.2⟩
  | cold => exact ⟨Same.rd k.fr h.1, h.2⟩
  | shal =>
    obtain ⟨h1, h2, rfl⟩ := h
    exact ⟨(k.ow a (by simp)).1 _ h1, (k.ow a (by simp)).2, rfl⟩
  | full =>
    obtain ⟨h1, h2, rfl⟩ := h
    exact ⟨(k.ow a (by simp)).1 _ h1, (k.ow a (by simp)).2, rfl⟩
  | flds _ => exact h
mutual
theorem Rp.keep : ∀ {t : T} {o : Own} {v : V} {fp : List Addr}, Keep K F H F' H' o.isView fp → Rp K F H o t v fp → Rp K F' H' o t v fp
  | .non, _, _, _, _, h => by simpa only [Rp] using h
  | .bl _, _, _, _, _, h => by simpa only [Rp] using h
  | .int _, _, _, _, _, h => by simpa only [Rp] using h
  | .str _, _, _, _, _, h => by simpa only [Rp] using h
  | .tup xs, o, v, fp, k, h => by
    simp only [Rp] at h ⊢
    obtain ⟨a, vs, e, s, r⟩ := h
    exact ⟨a, vs, e, k.tp _ _ s, RpL.keep (by rw [kidR_view]; exact k) r⟩
  | .lst xs, o, v, fp, k, h => by
    simp only [Rp] at h ⊢
    obtain ⟨a, vs, hd, fp', e, s, r, ef⟩ := h
    subst ef
    exact ⟨a, vs, hd, fp', e, s.keep (k.sub fun _ m => List.mem_append_left _ m), RpL.keep (by rw [kidR_view]; exact k.sub fun _ m => List.mem_append_right _ m) r, rfl⟩
  | .dct _ _, _, _, _, _, h => by simp only [Rp] at h
  | .obj _ _ _, _, _, _, _, h => by simp only [Rp] at h
theorem RpL.keep : ∀ {xs : List T} {o : Own} {vs : List V} {fp : List Addr}, Keep K F H F' H' o.isView fp → RpL K F H o xs vs fp → RpL K F' H' o xs vs fp
  | [], _, [], _, _, h => by simpa only [RpL] using h
  | x :: xs, o, v :: vs, fp, k, h => by
    simp only [RpL] at h ⊢
    obtain ⟨f1, f2, h1, h2, ef⟩ := h
    subst ef
    exact ⟨f1, f2, Rp.keep (k.sub fun _ m => List.mem_append_left _ m) h1, RpL.keep (k.sub fun _ m => List.mem_append_right _ m) h2, rfl⟩
  | [], _, _ :: _, _, _, h => by simp [RpL] at h
  | _ :: _, _, [], _, _, h => by simp [RpL] at h
end
mutual
/-- a tree without lists holds under any claim -/
theorem Rp.nl : ∀ {t : T} {o : Own} {v : V} {fp : List Addr}, t.nl = true → Rp K F H o t v fp → fp = [] ∧ ∀ o' F', Rp K F' H o' t v []
  | .non, _, _, _, _, h => by simp only [Rp] at h ⊢; exact ⟨h.2, fun _ _ => ⟨h.1, trivial⟩⟩
  | .bl _, _, _, _, _, h => by simp only [Rp] at h ⊢; exact ⟨h.2, fun _ _ => ⟨h.1, trivial⟩⟩
  | .int _, _, _, _, _, h => by simp only [Rp] at h ⊢; exact ⟨h.2, fun _ _ => ⟨h.1, trivial⟩⟩
  | .str _, _, _, _, _, h => by simp only [Rp] at h ⊢; exact ⟨h.2.1, fun _ _ => ⟨h.1, trivial, h.2.2⟩⟩
  | .tup xs, o, v, fp, n, h => by
    simp only [Rp] at h ⊢
    obtain ⟨a, vs, e, s, r⟩ := h
    obtain ⟨e1, q⟩ := RpL.nl (by simpa only [T.nl] using n) r
    exact ⟨e1, fun o' F' => ⟨a, vs, e, s, q _ _⟩⟩
  | .lst xs, _, _, _, n, _ => by simp [T.nl] at n
  | .dct _ _, _, _, _, n, _ => by simp [T.nl] at n
  | .obj _ _ _, _, _, _, n, _ => by simp [T.nl] at n
theorem RpL.nl : ∀ {xs : List T} {o : Own} {vs : List V} {fp : List Addr}, nlL xs = true → RpL K F H o xs vs fp → fp = [] ∧ ∀ o' F', RpL K F' H o' xs vs []
  | [], _, [], _, _, h => by simp only [RpL] at h ⊢; exact ⟨h, fun _ _ => trivial⟩
  | x :: xs, o, v :: vs, fp, n, h => by
    simp only [RpL] at h ⊢
    obtain ⟨f1, f2, h1, h2, ef⟩ := h
    simp only [nlL, Bool.and_eq_true] at n
    obtain ⟨e1, q1⟩ := Rp.nl n.1 h1
    obtain ⟨e2, q2⟩ := RpL.nl n.2 h2
    subst e1 e2
    exact ⟨ef, fun o' F' => ⟨[], [], q1 _ _, q2 _ _, rfl⟩⟩
  | [], _, _ :: _, _, _, h => by simp [RpL] at h
  | _ :: _, _, [], _, _, h => by simp [RpL] at h
end
theorem LstAt.view {o : Own} {a : Addr} {vs : List V} {hd : List Addr} (s : Same F H) (h : LstAt K F H o a vs hd) : Rd H a (.lst vs) := by
  cases o with
  | view i => exact h.1
  | cold => exact Same.rd s h.1
  | shal => exact .inl h.1
  | full => exact .inl h.1
  | flds _ => exact h.elim
mutual
/-- whatever is claimed, it may be looked at -/
theorem Rp.view (s : Same F H) (i : Nat) : ∀ {t : T} {o : Own} {v : V} {fp : List Addr}, Rp K F H o t v fp → Rp K F H (.view i) t v []
  | .non, _, _, _, h => by simp only [Rp] at h ⊢; exact ⟨h.1, trivial⟩
  | .bl _, _, _, _, h => by simp only [Rp] at h ⊢; exact ⟨h.1, trivial⟩
  | .int _, _, _, _, h => by simp only [Rp] at h ⊢; exact ⟨h.1, trivial⟩
  | .str _, _, _, _, h => by simp only [Rp] at h ⊢; exact ⟨h.1, trivial, h.2.2⟩
  | .tup xs, o, v, fp, h => by
    simp only [Rp] at h ⊢
    obtain ⟨a, vs, e, q, r⟩ := h
    exact ⟨a, vs, e, q, RpL.view s i r⟩
  | .lst xs, o, v, fp, h => by
    simp only [Rp] at h ⊢
    obtain ⟨a, vs, hd, fp', e, q, r, ef⟩ := h
    exact ⟨a, vs, [], [], e, ⟨q.view s, rfl⟩, RpL.view s i r, rfl⟩
  | .dct _ _, _, _, _, h => by simp only [Rp] at h
  | .obj _ _ _, _, _, _, h => by simp only [Rp] at h
theorem RpL.view (s : Same F H) (i : Nat) : ∀ {xs : List T} {o : Own} {vs : List V} {fp : List Addr}, RpL K F H o xs vs fp → RpL K F H (.view i) xs vs []
  | [], _, [], _, h => by simp only [RpL]
  | x :: xs, o, v :: vs, fp, h => by
    simp only [RpL] at h ⊢
    obtain ⟨f1, f2, h1, h2, ef⟩ := h
    exact ⟨[], [], Rp.view s i h1, RpL.view s i h2, rfl⟩
  | [], _, _ :: _, _, h => by simp [RpL] at h
  | _ :: _, _, [], _, h => by simp [RpL] at h
end
theorem LstAt.frz {o : Own} {a : Addr} {vs : List V} {hd : List Addr} (nv : o.isView = false) (s : Same F F') (f : ∀ a ∈ hd, F' a = H a) (h : LstAt K F H o a vs hd) : Rd F' a (.lst vs) := by
  cases o with
  | view i => cases nv
  | cold => exact Same.rd s h.1
  | shal =>
    obtain ⟨h1, h2, rfl⟩ := h
    exact .inl ((f a (by simp)).trans h1)
  | full =>
    obtain ⟨h1, h2, rfl⟩ := h
    exact .inl ((f a (by simp)).trans h1)
  | flds _ => exact h.elim
mutual
/-- shared from now on -/
theorem Rp.frz (s : Same F F') : ∀ {t : T} {o : Own} {v : V} {fp : List Addr}, o.isView = false → (∀ a ∈ fp, F' a = H a) → Rp K F H o t v fp → Rp K F' H .cold t v []
  | .non, _, _, _, _, _, h => by simp only [Rp] at h ⊢; exact ⟨h.1, trivial⟩
  | .bl _, _, _, _, _, _, h => by simp only [Rp] at h ⊢; exact ⟨h.1, trivial⟩
  | .int _, _, _, _, _, _, h => by simp only [Rp] at h ⊢; exact ⟨h.1, trivial⟩
  | .str _, _, _, _, _, _, h => by simp only [Rp] at h ⊢; exact ⟨h.1, trivial, h.2.2⟩
  | .tup xs, o, v, fp, nv, f, h => by
    simp only [Rp] at h ⊢
    obtain ⟨a, vs, e, q, r⟩ := h
    exact ⟨a, vs, e, q, RpL.frz s (by rw [kidR_view]; exact nv) f r⟩
  | .lst xs, o, v, fp, nv, f, h => by
    simp only [Rp] at h ⊢
    obtain ⟨a, vs, hd, fp', e, q, r, ef⟩ := h
    subst ef
    exact ⟨a, vs, [], [], e, ⟨q.frz nv s fun a m => f a (List.mem_append_left _ m), rfl⟩, RpL.frz s (by rw [kidR_view]; exact nv) (fun a m => f a (List.mem_append_right _ m)) r, rfl⟩
  | .dct _ _, _, _, _, _, _, h => by simp only [Rp] at h
  | .obj _ _ _, _, _, _, _, _, h => by simp only [Rp] at h
theorem RpL.frz (s : Same F F') : ∀ {xs : List T} {o : Own} {vs : List V} {fp : List Addr}, o.isView = false → (∀ a ∈ fp, F' a = H a) → RpL K F H o xs vs fp → RpL K F' H .cold xs vs []
  | [], _, [], _, _, _, h => by simp only [RpL]
  | x :: xs, o, v :: vs, fp, nv, f, h => by
    simp only [RpL] at h ⊢
    obtain ⟨f1, f2, h1, h2, ef⟩ := h
    subst ef
    exact ⟨[], [], Rp.frz s nv (fun a m => f a (List.mem_append_left _ m)) h1, RpL.frz s nv (fun a m => f a (List.mem_append_right _ m)) h2, rfl⟩
  | [], _, _ :: _, _, _, _, h => by simp [RpL] at h
  | _ :: _, _, [], _, _, _, h => by simp [RpL] at h
end
theorem LstAt.own {o : Own} {a : Addr} {vs : List V} {hd : List Addr} (h : LstAt K F H o a vs hd) : ∀ b ∈ hd, ∃ xs, H b = some (.lst xs) := by
  cases o with
  | view i => rw [h.2]; simp
  | cold => rw [h.2]; simp
  | shal => obtain ⟨h1, h2, rfl⟩ := h; intro b m; simp at m; subst m; exact ⟨_, h1⟩
  | full => obtain ⟨h1, h2, rfl⟩ := h; intro b m; simp at m; subst m; exact ⟨_, h1⟩
  | flds _ => exact h.elim
mutual
/-- one's own addresses bear lists -/
theorem Rp.own : ∀ {t : T} {o : Own} {v : V} {fp : List Addr}, Rp K F H o t v fp → ∀ b ∈ fp, ∃ xs, H b = some (.lst xs)
  | .non, _, _, _, h => by simp only [Rp] at h; rw [h.2]; simp
  | .bl _, _, _, _, h => by simp only [Rp] at h; rw [h.2]; simp
  | .int _, _, _, _, h => by simp only [Rp] at h; rw [h.2]; simp
  | .str _, _, _, _, h => by simp only [Rp] at h; rw [h.2.1]; simp
  | .tup xs, o, v, fp, h => by
    simp only [Rp] at h
    obtain ⟨a, vs, e, q, r⟩ := h
    exact RpL.own r
  | .lst xs, o, v, fp, h => by
    simp only [Rp] at h
    obtain ⟨a, vs, hd, fp', e, q, r, ef⟩ := h
    subst ef
    intro b m
    rcases List.mem_append.mp m with m | m
    · exact q.own b m
    · exact RpL.own r b m
  | .dct _ _, _, _, _, h => by simp only [Rp] at h
  | .obj _ _ _, _, _, _, h => by simp only [Rp] at h
theorem RpL.own : ∀ {xs : List T} {o : Own} {vs : List V} {fp : List Addr}, RpL K F H o xs vs fp → ∀ b ∈ fp, ∃ xs, H b = some (.lst xs)
  | [], _, [], _, h => by simp only [RpL] at h; rw [h]; simp
  | x :: xs, o, v :: vs, fp, h => by
    simp only [RpL] at h
    obtain ⟨f1, f2, h1, h2, ef⟩ := h
    subst ef
    intro b m
    rcases List.mem_append.mp m with m | m
    · exact Rp.own h1 b m
    · exact RpL.own h2 b m
  | [], _, _ :: _, _, h => by simp [RpL] at h
  | _ :: _, _, [], _, h => by simp [RpL] at h
end
mutual
theorem Rp.none_of {o : Own} (ho : o = .cold ∨ o.isView = true) : ∀ {t : T} {v : V} {fp : List Addr}, Rp K F H o t v fp → fp = []
  | .non, _, _, h => by simp only [Rp] at h; exact h.2
  | .bl _, _, _, h => by simp only [Rp] at h; exact h.2
  | .int _, _, _, h => by simp only [Rp] at h; exact h.2
  | .str _, _, _, h => by simp only [Rp] at h; exact h.2.1
  | .tup xs, v, fp, h => by
    simp only [Rp] at h
    obtain ⟨a, vs, e, q, r⟩ := h
    have e1 : kidR o = o := by
      rcases ho with rfl | ho
      · rfl
      · cases o <;> first | rfl | cases ho
    rw [e1] at r
    exact RpL.none_of ho r
  | .lst xs, v, fp, h => by
    simp only [Rp] at h
    obtain ⟨a, vs, hd, fp', e, q, r, ef⟩ := h
    have e1 : kidR o = o := by
      rcases ho with rfl | ho
      · rfl
      · cases o <;> first | rfl | cases ho
    rw [e1] at r
    have e2 := RpL.none_of ho r
    have e3 : hd = [] := by
      rcases ho with rfl | ho
      · exact q.2
      · cases o <;> first | exact q.2 | cases ho
    rw [ef, e2, e3]; rfl
  | .dct _ _, _, _, h => by simp only [Rp] at h
  | .obj _ _ _, _, _, h => by simp only [Rp] at h
theorem RpL.none_of {o : Own} (ho : o = .cold ∨ o.isView = true) : ∀ {xs : List T} {vs : List V} {fp : List Addr}, RpL K F H o xs vs fp → fp = []
  | [], [], _, h => by simpa only [RpL] using h
  | x :: xs, v :: vs, fp, h => by
    simp only [RpL] at h
    obtain ⟨f1, f2, h1, h2, ef⟩ := h
    rw [ef, Rp.none_of ho h1, RpL.none_of ho h2]; rfl
  | [], _ :: _, _, h => by simp [RpL] at h
  | _ :: _, [], _, h => by simp [RpL] at h
end
/-- one item -/
theorem RpL.get : ∀ {xs : List T} {o : Own} {vs : List V} {fp : List Addr} {j : Nat} {x : T}, RpL K F H o xs vs fp → xs[j]? = some x →
    ∃ v l f r, vs[j]? = some v ∧ Rp K F H o x v f ∧ fp = l ++ (f ++ r)
  | [], _, _, _, _, _, _, e => by simp at e
  | _ :: _, _, [], _, _, _, h, _ => by simp [RpL] at h
  | x :: xs, o, v :: vs, fp, 0, y, h, e => by
    simp only [RpL] at h
    obtain ⟨f1, f2, h1, h2, ef⟩ := h
    have e : x = y := by simpa using e
    subst e
    exact ⟨v, [], f1, f2, rfl, h1, ef⟩
  | x :: xs, o, v :: vs, fp, j + 1, y, h, e => by
    simp only [RpL] at h
    obtain ⟨f1, f2, h1, h2, ef⟩ := h
    obtain ⟨w, l, f, r, e1, h3, e2⟩ := RpL.get (j := j) h2 (by simpa using e)
    exact ⟨w, f1 ++ l, f, r, by simpa using e1, h3, by rw [ef, e2, List.append_assoc]⟩
theorem RpL.append : ∀ {xs ys : List T} {o : Own} {vs ws : List V} {fp fq : List Addr}, RpL K F H o xs vs fp → RpL K F H o ys ws fq → RpL K F H o (xs ++ ys) (vs ++ ws) (fp ++ fq)
  | [], _, _, [], _, fp, _, h, h' => by
    simp only [RpL] at h
    subst h
    exact h'
  | x :: xs, ys, o, v :: vs, ws, fp, fq, h, h' => by
    simp only [RpL] at h
    obtain ⟨f1, f2, h1, h2, ef⟩ := h
    subst ef
    simp only [List.cons_append, RpL]
    exact ⟨f1, f2 ++ fq, h1, RpL.append h2 h', by rw [List.append_assoc]⟩
  | [], _, _, _ :: _, _, _, _, h, _ => by simp [RpL] at h
  | _ :: _, _, _, [], _, _, _, h, _ => by simp [RpL] at h
theorem RpL.one {o : Own} {x : T} {v : V} {fp : List Addr} : RpL K F H o [x] [v] fp ↔ Rp K F H o x v fp := by
  simp only [RpL]
  constructor
  · rintro ⟨f1, f2, h, rfl, rfl⟩; simpa using h
  · intro h; exact ⟨fp, [], h, rfl, by simp⟩
/-- cold items, wherever they are picked from -/
theorem RpL.sub {o : Own} (ho : o = .cold ∨ o.isView = true) {xs : List T} {vs : List V} {fp : List Addr} (h : RpL K F H o xs vs fp) :
    ∀ {ys : List T} {ws : List V}, ys.length = ws.length → (∀ (j : Nat) (y : T), ys[j]? = some y → ∃ i : Nat, xs[i]? = some y ∧ vs[i]? = ws[j]?) → RpL K F H o ys ws []
  | [], [], _, _ => by simp only [RpL]
  | y :: ys, w :: ws, hl, hs => by
    simp only [RpL]
    obtain ⟨i, e1, e2⟩ := hs 0 y rfl
    obtain ⟨v, l, f, r, e3, h3, e4⟩ := h.get e1
    have e5 : v = w := by rw [e2] at e3; simpa using e3.symm
    subst e5
    have e6 := Rp.none_of ho h3
    subst e6
    exact ⟨[], [], h3, RpL.sub ho h (by simpa using hl) (fun j z e => by
      obtain ⟨i, q1, q2⟩ := hs (j + 1) z (by simpa using e)
      exact ⟨i, q1, by simpa using q2⟩), rfl⟩
  | [], _ :: _, hl, _ => by simp at hl
  | _ :: _, [], hl, _ => by simp at hl
end
end Ev
namespace Ev
open PySem PySem.Spec PyProof.Rows L2
/-- temporaries under one claim -/
structure Gp where
  o : Own
  ts : List T
  vs : List V
abbrev g1 (o : Own) (t : T) (v : V) : Gp := ⟨o, [t], [v]⟩
section
variable (K : PySem.W.Frag) (F H : Hp)
def SlotAt (s : Slot) (x : Option V) (fp : List Addr) : Prop := match s with
  | none => fp = []
  | some (t, o) => o.isView = false ∧ ∃ v, x = some v ∧ Rp K F H o t v fp
def REnv : Env → L2.St → List Addr → Prop
  | [], [], fp => fp = []
  | s :: ρ, x :: σ, fp => ∃ f1 f2, SlotAt K F H s x f1 ∧ REnv ρ σ f2 ∧ fp = f1 ++ f2
  | _, _, _ => False
def RTmp : List Gp → List Addr → Prop
  | [], fp => fp = []
  | g :: τ, fp => ∃ f1 f2, RpL K F H g.o g.ts g.vs f1 ∧ RTmp τ f2 ∧ fp = f1 ++ f2
end
structure Core (K : PySem.W.Frag) (H0 F0 : Hp) (ρ : Env) (σ : L2.St) (τ : List Gp) (H F : Hp) (fρ fτ : List Addr) : Prop where
  fh : Same F H
  h0 : Same H0 H
  f0 : ∀ a, H0 a ≠ none → F a = F0 a
  ow : ∀ a ∈ fρ ++ fτ, H0 a = none ∧ F a = none
  nd : (fρ ++ fτ).Nodup
  env : REnv K F H ρ σ fρ
  tmp : RTmp K F H τ fτ
/-- slots ρ and temporaries τ lie in the heap H, of a def entered at H0 with the shared part F0 -/
structure I (K : PySem.W.Frag) (H0 F0 : Hp) (ρ : Env) (σ : L2.St) (τ : List Gp) (H : Hp) : Prop where
  ex : ∃ F fρ fτ, Core K H0 F0 ρ σ τ H F fρ fτ
section
variable {K : PySem.W.Frag} {H0 F0 F H F' H' : Hp} {ρ ρ' : Env} {σ σ' : L2.St} {τ τ' : List Gp} {fρ fτ fp : List Addr} {o o' : Own} {t t' : T} {v : V} {ts : List T} {vs : List V} {g : Gp}
theorem SlotAt.keep {s : Slot} {x : Option V} (k : Keep K F H F' H' false fp) (h : SlotAt K F H s x fp) : SlotAt K F' H' s x fp := by
  cases s with
  | none => exact h
  | some p =>
    obtain ⟨t, o⟩ := p
    obtain ⟨h1, v, e, r⟩ := h
    exact ⟨h1, v, e, Rp.keep (by rw [h1]; exact k) r⟩
theorem REnv.keep : ∀ {ρ : Env} {σ : L2.St} {fp : List Addr}, Keep K F H F' H' false fp → REnv K F H ρ σ fp → REnv K F' H' ρ σ fp
  | [], [], _, _, h => h
  | s :: ρ, x :: σ, fp, k, h => by
    simp only [REnv] at h ⊢
    obtain ⟨f1, f2, h1, h2, ef⟩ := h
    subst ef
    exact ⟨f1, f2, h1.keep (k.sub fun _ m => List.mem_append_left _ m), REnv.keep (k.sub fun _ m => List.mem_append_right _ m) h2, rfl⟩
  | [], _ :: _, _, _, h => h.elim
  | _ :: _, [], _, _, h => h.elim
theorem Gp.keep {g : Gp} {b : Bool} (k : Keep K F H F' H' b fp) (hb : b = false → g.o.isView = false) (h : RpL K F H g.o g.ts g.vs fp) : RpL K F' H' g.o g.ts g.vs fp :=
  RpL.keep ⟨k.fr, k.tp, k.ow, fun e => k.vw (by
    cases b with
    | true => rfl
    | false => rw [hb rfl] at e; cases e)⟩ h
theorem RTmp.keep {b : Bool} : ∀ {τ : List Gp} {fp : List Addr}, Keep K F H F' H' b fp → (b = false → ∀ g ∈ τ, g.o.isView = false) → RTmp K F H τ fp → RTmp K F' H' τ fp
  | [], _, _, _, h => h
  | g :: τ, fp, k, hb, h => by
    simp only [RTmp] at h ⊢
    obtain ⟨f1, f2, h1, h2, ef⟩ := h
    subst ef
    exact ⟨f1, f2, Gp.keep (k.sub fun _ m => List.mem_append_left _ m) (fun e => hb e g (by simp)) h1, RTmp.keep (k.sub fun _ m => List.mem_append_right _ m) (fun e x m => hb e x (by simp [m])) h2, rfl⟩
theorem REnv.len : ∀ {ρ : Env} {σ : L2.St} {fp : List Addr}, REnv K F H ρ σ fp → ρ.length = σ.length
  | [], [], _, _ => rfl
  | _ :: ρ, _ :: σ, _, h => by
    obtain ⟨_, _, _, h2, _⟩ := h
    simp [REnv.len h2]
  | [], _ :: _, _, h => h.elim
  | _ :: _, [], _, h => h.elim
/-- one slot and the others -/
theorem REnv.at_ : ∀ {ρ : Env} {σ : L2.St} {fp : List Addr} {i : Nat} {s : Slot}, REnv K F H ρ σ fp → ρ[i]? = some s →
    ∃ x l f r, σ[i]? = some x ∧ SlotAt K F H s x f ∧ fp = l ++ (f ++ r) ∧ ∀ s' x' f', SlotAt K F H s' x' f' → REnv K F H (ρ.set i s') (σ.set i x') (l ++ (f' ++ r))
  | [], _, _, _, _, _, e => by simp at e
  | _ :: _, [], _, _, _, h, _ => h.elim
  | s :: ρ, x :: σ, fp, 0, s0, h, e => by
    obtain ⟨f1, f2, h1, h2, ef⟩ := h
    have e : s = s0 := by simpa using e
    subst e
    exact ⟨x, [], f1, f2, rfl, h1, ef, fun s' x' f' h' => ⟨f', f2, h', h2, rfl⟩⟩
  | s :: ρ, x :: σ, fp, i + 1, s0, h, e => by
    obtain ⟨f1, f2, h1, h2, ef⟩ := h
    obtain ⟨y, l, f, r, e1, h3, e2, q⟩ := REnv.at_ (i := i) h2 (by simpa using e)
    exact ⟨y, f1 ++ l, f, r, by simpa using e1, h3, by rw [ef, e2, List.append_assoc], fun s' x' f' h' => ⟨f1, _, h1, q s' x' f' h', by rw [List.append_assoc]⟩⟩
theorem REnv.fp_own : ∀ {ρ : Env} {σ : L2.St} {fp : List Addr}, REnv K F H ρ σ fp → ∀ b ∈ fp, ∃ xs, H b = some (.lst xs)
  | [], [], _, h => by
    have h : _ = [] := h
    rw [h]; simp
  | s :: ρ, x :: σ, fp, h => by
    obtain ⟨f1, f2, h1, h2, ef⟩ := h
    subst ef
    intro b m
    rcases List.mem_append.mp m with m | m
    · cases s with
      | none => rw [show f1 = [] from h1] at m; simp at m
      | some p =>
        obtain ⟨t, o⟩ := p
        obtain ⟨_, v, _, r⟩ := h1
        exact r.own b m
    · exact REnv.fp_own h2 b m
  | [], _ :: _, _, h => h.elim
  | _ :: _, [], _, h => h.elim
theorem RTmp.fp_own : ∀ {τ : List Gp} {fp : List Addr}, RTmp K F H τ fp → ∀ b ∈ fp, ∃ xs, H b = some (.lst xs)
  | [], _, h => by
    have h : _ = [] := h
    rw [h]; simp
  | g :: τ, fp, h => by
    obtain ⟨f1, f2, h1, h2, ef⟩ := h
    subst ef
    intro b m
    rcases List.mem_append.mp m with m | m
    · exact h1.own b m
    · exact RTmp.fp_own h2 b m
theorem Keep.refl (h : ∀ a ∈ fp, F a = none) : Keep K F H F H true fp := ⟨fun _ _ e => e, fun _ _ e => e, fun a m => ⟨fun _ e => e, h a m⟩, fun _ _ _ e => e⟩
/-- the shared part grows by what is no one's own any more -/
theorem Keep.frz (s : Same F F') (h : ∀ a ∈ fp, F' a = none) : Keep K F H F' H true fp := ⟨s, fun _ _ e => e, fun a m => ⟨fun _ e => e, h a m⟩, fun _ _ _ e => e⟩
/-- the heap grows -/
theorem Keep.grow (s : Same H H') (h : ∀ a ∈ fp, F a = none) : Keep K F H F H' true fp := ⟨fun _ _ e => e, fun _ _ e => SqT.mono (fun _ => Same.rd s) e, fun a m => ⟨s a, h a m⟩, fun _ => s⟩
theorem I.drop (h : I K H0 F0 ρ σ (g :: τ) H) : I K H0 F0 ρ σ τ H := by
  obtain ⟨F, fρ, fτ, c⟩ := h
  obtain ⟨f1, f2, h1, h2, rfl⟩ := c.tmp
  exact ⟨F, fρ, f2, c.fh, c.h0, c.f0, fun a m => c.ow a (by simp only [List.mem_append] at m ⊢; grind), c.nd.sublist (by simp), c.env, h2⟩
theorem I.swap {g' : Gp} (h : I K H0 F0 ρ σ (g :: g' :: τ) H) : I K H0 F0 ρ σ (g' :: g :: τ) H := by
  obtain ⟨F, fρ, fτ, c⟩ := h
  obtain ⟨f1, f2, h1, ⟨f3, f4, h3, h4, rfl⟩, rfl⟩ := c.tmp
  refine ⟨F, fρ, f3 ++ (f1 ++ f4), c.fh, c.h0, c.f0, fun a m => c.ow a ?_, ?_, c.env, f3, f1 ++ f4, h3, ⟨f1, f4, h1, h4, rfl⟩, rfl⟩
  · simp only [List.mem_append] at m ⊢; grind
  · refine (List.Perm.nodup_iff ?_).mp c.nd
    refine List.Perm.append_left _ ?_
    rw [← List.append_assoc, ← List.append_assoc]
    exact List.Perm.append_right _ List.perm_append_comm
theorem I.drop2 {g' : Gp} (h : I K H0 F0 ρ σ (g :: g' :: τ) H) : I K H0 F0 ρ σ (g :: τ) H := h.swap.drop
/-- a claim without addresses -/
theorem I.push (h : I K H0 F0 ρ σ τ H) (q : ∀ F, Same F H → RpL K F H o ts vs []) : I K H0 F0 ρ σ (⟨o, ts, vs⟩ :: τ) H := by
  obtain ⟨F, fρ, fτ, c⟩ := h
  exact ⟨F, fρ, fτ, c.fh, c.h0, c.f0, c.ow, c.nd, c.env, [], fτ, q F c.fh, c.tmp, rfl⟩
/-- the claim on top turned -/
theorem I.map (h : I K H0 F0 ρ σ (g :: τ) H) (q : ∀ F fp, Same F H → RpL K F H g.o g.ts g.vs fp → ∃ fp', RpL K F H o ts vs fp' ∧ fp'.Sublist fp) : I K H0 F0 ρ σ (⟨o, ts, vs⟩ :: τ) H := by
  obtain ⟨F, fρ, fτ, c⟩ := h
  obtain ⟨f1, f2, h1, h2, rfl⟩ := c.tmp
  obtain ⟨f1', h1', sub⟩ := q F f1 c.fh h1
  refine ⟨F, fρ, f1' ++ f2, c.fh, c.h0, c.f0, fun a m => c.ow a ?_, c.nd.sublist ?_, c.env, f1', f2, h1', h2, rfl⟩
  · simp only [List.mem_append] at m ⊢
    rcases m with m | m | m
    · exact .inl m
    · exact .inr (.inl (sub.subset m))
    · exact .inr (.inr m)
  · exact List.Sublist.append (List.Sublist.refl _) (List.Sublist.append sub (List.Sublist.refl _))
theorem I.dup (h : I K H0 F0 ρ σ (g :: τ) H) (q : ∀ F fp, Same F H → RpL K F H g.o g.ts g.vs fp → RpL K F H o ts vs []) : I K H0 F0 ρ σ (⟨o, ts, vs⟩ :: g :: τ) H := by
  obtain ⟨F, fρ, fτ, c⟩ := h
  obtain ⟨f1, f2, h1, h2, e⟩ := id c.tmp
  exact ⟨F, fρ, fτ, c.fh, c.h0, c.f0, c.ow, c.nd, c.env, [], fτ, q F f1 c.fh h1, c.tmp, rfl⟩
/-- what is seen on top -/
theorem I.see (h : I K H0 F0 ρ σ (g :: τ) H) : ∃ F fp, Same F H ∧ RpL K F H g.o g.ts g.vs fp := by
  obtain ⟨F, fρ, fτ, c⟩ := h
  obtain ⟨f1, f2, h1, h2, e⟩ := c.tmp
  exact ⟨F, f1, c.fh, h1⟩
theorem I.same (h : I K H0 F0 ρ σ τ H) : Same H0 H := h.ex.elim fun _ ⟨_, _, c⟩ => c.h0
theorem I.len (h : I K H0 F0 ρ σ τ H) : ρ.length = σ.length := h.ex.elim fun _ ⟨_, _, c⟩ => c.env.len
/-- the heap grows -/
theorem I.grow (h : I K H0 F0 ρ σ τ H) (s : Same H H') : I K H0 F0 ρ σ τ H' := by
  obtain ⟨F, fρ, fτ, c⟩ := h
  exact ⟨F, fρ, fτ, c.fh.trans s, c.h0.trans s, c.f0, c.ow, c.nd, c.env.keep ⟨fun _ _ e => e, fun _ _ e => SqT.mono (fun _ => Same.rd s) e, fun a m => ⟨s a, (c.ow a (by simp [m])).2⟩, fun e => by cases e⟩,
    c.tmp.keep (b := true) (Keep.grow s fun a m => (c.ow a (by simp [m])).2) (fun e => by cases e)⟩
theorem same_upd {H : Hp} {p : Addr} {o : HO} (h : H p = none) : Same H (upd H p o) := fun b x e => by
  rw [upd_ne (ne_of_none e h)]; exact e
/-- the claim on top is given up: shared from now on -/
theorem I.frz (h : I K H0 F0 ρ σ (g :: τ) H) (nv : g.o.isView = false) : I K H0 F0 ρ σ (⟨.cold, g.ts, g.vs⟩ :: τ) H := by
  obtain ⟨F, fρ, fτ, c⟩ := h
  obtain ⟨f1, f2, h1, h2, rfl⟩ := c.tmp
  have nd := c.nd
  rw [List.nodup_append] at nd
  obtain ⟨n1, n2, n3⟩ := nd
  rw [List.nodup_append] at n2
  obtain ⟨n4, n5, n6⟩ := n2
  have hF : Same F (fun a => if a ∈ f1 then H a else F a) := fun a x e => by
    show (if a ∈ f1 then H a else F a) = some x
    split
    · exact c.fh a x e
    · exact e
  have hout : ∀ a, a ∉ f1 → (fun a => if a ∈ f1 then H a else F a) a = F a := fun a n => if_neg n
  have o2 : ∀ a ∈ f2, (fun a => if a ∈ f1 then H a else F a) a = none := fun a m => by
    rw [hout a fun q => n6 a q a m rfl]
    exact (c.ow a (by simp [m])).2
  have oρ : ∀ a ∈ fρ, (fun a => if a ∈ f1 then H a else F a) a = none := fun a m => by
    rw [hout a fun q => n3 a m a (by simp [q]) rfl]
    exact (c.ow a (by simp [m])).2
  refine ⟨fun a => if a ∈ f1 then H a else F a, fρ, f2, fun a x e => ?_, c.h0, fun a q => ?_, fun a m => ⟨(c.ow a (by simp only [List.mem_append] at m ⊢; grind)).1, ?_⟩, c.nd.sublist (by simp), ?_, [], f2, ?_, ?_, rfl⟩
  · have e : (if a ∈ f1 then H a else F a) = some x := e
    split at e
    · exact e
    · exact c.fh a x e
  · exact (hout a fun m => q (c.ow a (by simp [m])).1).trans (c.f0 a q)
  · rcases List.mem_append.mp m with m | m
    · exact oρ a m
    · exact o2 a m
  · exact c.env.keep ⟨hF, fun _ _ e => e, fun a m => ⟨fun _ e => e, oρ a m⟩, fun e => by cases e⟩
  · exact RpL.frz hF nv (fun a m => if_pos m) h1
  · exact h2.keep (Keep.frz hF o2) (fun e => by cases e)
/-- a slot's tree is taken out -/
theorem I.mov {i : Nat} (h : I K H0 F0 ρ σ τ H) (e : ρ[i]? = some (some (t, o))) : ∃ v, σ[i]? = some (some v) ∧ o.isView = false ∧ I K H0 F0 (ρ.set i none) σ (g1 o t v :: τ) H := by
  obtain ⟨F, fρ, fτ, c⟩ := h
  obtain ⟨x, l, f, r, e1, ⟨nv, v, ex, q⟩, ef, put⟩ := c.env.at_ e
  subst ex
  refine ⟨v, e1, nv, F, l ++ ([] ++ r), f ++ fτ, c.fh, c.h0, c.f0, fun a m => c.ow a ?_, ?_, ?_, f, fτ, RpL.one.mpr q, c.tmp, rfl⟩
  · rw [ef]; simp only [List.mem_append] at m ⊢; simp only [List.not_mem_nil, false_or] at m; grind
  · refine (List.Perm.nodup_iff ?_).mp c.nd
    rw [ef]
    simp only [List.nil_append, List.append_assoc]
    refine List.Perm.append_left _ ?_
    rw [← List.append_assoc, ← List.append_assoc]
    exact List.Perm.append_right _ List.perm_append_comm
  · have z := put none (some v) [] rfl
    have e2 : σ.set i (some v) = σ := List.ext_getElem? fun j => by
      by_cases ej : j = i
      · subst ej
        have hj : j < σ.length := (List.getElem?_eq_some_iff.mp e1).1
        rw [List.getElem?_set_self hj, e1]
      · rw [List.getElem?_set_ne (Ne.symm ej)]
    rw [e2] at z
    exact z
/-- a tree is put into a slot -/
theorem I.put {i : Nat} (h : I K H0 F0 ρ σ (g1 o t v :: τ) H) (nv : o.isView = false) (hi : i < ρ.length) : I K H0 F0 (ρ.set i (some (t, o))) (σ.set i (some v)) τ H := by
  obtain ⟨F, fρ, fτ, c⟩ := h
  obtain ⟨f1, f2, h1, h2, rfl⟩ := c.tmp
  obtain ⟨x, l, f, r, e1, q, ef, put⟩ := c.env.at_ (s := ρ[i]) (List.getElem?_eq_getElem hi)
  refine ⟨F, l ++ (f1 ++ r), f2, c.fh, c.h0, c.f0, fun a m => c.ow a ?_, ?_, put _ _ _ ⟨nv, v, rfl, RpL.one.mp h1⟩, h2⟩
  · rw [ef]; simp only [List.mem_append] at m ⊢; grind
  · have nd : ((l ++ (f1 ++ r)) ++ f2 ++ f).Nodup := by
      refine (List.Perm.nodup_iff ?_).mp c.nd
      rw [ef]
      simp only [List.append_assoc]
      refine List.Perm.append_left _ ?_
      have e3 : (f ++ (r ++ (f1 ++ f2))).Perm ((r ++ (f1 ++ f2)) ++ f) := List.perm_append_comm
      refine e3.trans ?_
      rw [← List.append_assoc (as := r), ← List.append_assoc (as := f1)]
      simp only [List.append_assoc]
      rw [← List.append_assoc, ← List.append_assoc (as := f1)]
      exact List.Perm.append_right _ List.perm_append_comm
    exact nd.sublist (by simp)
/-- a slot is left -/
theorem I.clear {i : Nat} {x : Option V} (h : I K H0 F0 ρ σ τ H) : I K H0 F0 (ρ.set i none) (σ.set i x) τ H := by
  by_cases hi : i < ρ.length
  · obtain ⟨F, fρ, fτ, c⟩ := h
    obtain ⟨y, l, f, r, e1, q, ef, put⟩ := c.env.at_ (s := ρ[i]) (List.getElem?_eq_getElem hi)
    refine ⟨F, l ++ ([] ++ r), fτ, c.fh, c.h0, c.f0, fun a m => c.ow a ?_, c.nd.sublist ?_, put none x [] rfl, c.tmp⟩
    · rw [ef]; simp only [List.mem_append, List.not_mem_nil, false_or] at m ⊢; grind
    · rw [ef]
      exact List.Sublist.append (List.Sublist.append (List.Sublist.refl _) (by simp)) (List.Sublist.refl _)
  · have hl := h.len
    rw [List.set_eq_of_length_le (by omega), List.set_eq_of_length_le (by omega)]
    exact h
/-- a slot is looked at -/
theorem I.look {i : Nat} (h : I K H0 F0 ρ σ τ H) (e : ρ[i]? = some (some (t, o))) : ∃ v, σ[i]? = some (some v) ∧ o.isView = false ∧ (∀ j, I K H0 F0 ρ σ (g1 (.view j) t v :: τ) H) ∧ (o = .cold → I K H0 F0 ρ σ (g1 .cold t v :: τ) H) ∧ (t.nl = true → I K H0 F0 ρ σ (g1 .full t v :: τ) H) := by
  obtain ⟨F, fρ, fτ, c⟩ := h
  obtain ⟨x, l, f, r, e1, ⟨nv, v, ex, q⟩, ef, put⟩ := c.env.at_ e
  subst ex
  refine ⟨v, e1, nv, fun j => ⟨F, fρ, fτ, c.fh, c.h0, c.f0, c.ow, c.nd, c.env, [], fτ, RpL.one.mpr (q.view c.fh j), c.tmp, rfl⟩, fun e => ?_, fun n => ?_⟩
  · subst e
    have z := q.none_of (.inl rfl)
    subst z
    exact ⟨F, fρ, fτ, c.fh, c.h0, c.f0, c.ow, c.nd, c.env, [], fτ, RpL.one.mpr q, c.tmp, rfl⟩
  · exact ⟨F, fρ, fτ, c.fh, c.h0, c.f0, c.ow, c.nd, c.env, [], fτ, RpL.one.mpr ((q.nl n).2 _ _), c.tmp, rfl⟩
theorem set_self {α : Type} {l : List α} {i : Nat} {x : α} (h : l[i]? = some x) : l.set i x = l := List.ext_getElem? fun j => by
  by_cases ej : j = i
  · subst ej
    rw [List.getElem?_set_self (List.getElem?_eq_some_iff.mp h).1, h]
  · rw [List.getElem?_set_ne (Ne.symm ej)]
theorem cold_dup (h : I K H0 F0 ρ σ (g1 .cold t v :: τ) H) : I K H0 F0 ρ σ (g1 .cold t v :: g1 .cold t v :: τ) H :=
  h.dup fun F fp s q => by
    have z := RpL.none_of (.inl rfl) q
    subst z
    exact q
/-- a slot's tree is shared from now on -/
theorem I.share {i : Nat} (h : I K H0 F0 ρ σ τ H) (e : ρ[i]? = some (some (t, o))) : ∃ v, σ[i]? = some (some v) ∧ I K H0 F0 (ρ.set i (some (t, .cold))) σ (g1 .cold t v :: τ) H := by
  obtain ⟨v, ev, nv, h1⟩ := h.mov e
  have h2 := h1.frz nv
  have hi : i < (ρ.set i none).length := by rw [List.length_set]; exact (List.getElem?_eq_some_iff.mp e).1
  have h3 := (cold_dup h2).put rfl hi
  rw [List.set_set, set_self ev] at h3
  exact ⟨v, ev, h3⟩
/-- a tree that was seen, as a value to be shared -/
theorem I.re {x : T × Env} (h : I K H0 F0 ρ σ (g1 o t v :: τ) H) (e : reT t o ρ = some x) (lk : ∀ i, o = .view i → σ[i]? = some (some v)) : I K H0 F0 x.2 σ (g1 .cold x.1 v :: τ) H := by
  cases o with
  | view i =>
    simp only [reT] at e
    split at e
    · rename_i t' o' e1
      cases e
      obtain ⟨w, ew, h2⟩ := h.drop.share e1
      rw [lk i rfl] at ew; cases ew
      exact h2
    · cases e
  | cold => cases e; exact h
  | shal => cases e; exact h.frz rfl
  | full => cases e; exact h.frz rfl
  | flds os => cases e; exact h.frz rfl
/-- as a value to be kept -/
theorem I.val {r r' : R} (h : I K H0 F0 r.ρ σ (g1 r.o r.t v :: τ) H) (e : val r = some r') (lk : ∀ i, r.o = .view i → σ[i]? = some (some v)) : r'.o.isView = false ∧ I K H0 F0 r'.ρ σ (g1 r'.o r'.t v :: τ) H := by
  obtain ⟨t, o, ρ⟩ := r
  cases o with
  | view i =>
    simp only [Ev.val] at e
    split at e
    · rename_i t' o' e1
      cases e
      obtain ⟨w, ew, h2⟩ := h.drop.share e1
      rw [lk i rfl] at ew; cases ew
      exact ⟨rfl, h2⟩
    · cases e
  | cold => cases e; exact ⟨rfl, h⟩
  | shal => cases e; exact ⟨rfl, h⟩
  | full => cases e; exact ⟨rfl, h⟩
  | flds os => cases e; exact ⟨rfl, h⟩
/-- without lists any claim holds -/
theorem I.nl (h : I K H0 F0 ρ σ (g1 o t v :: τ) H) (n : t.nl = true) : I K H0 F0 ρ σ (g1 o' t v :: τ) H :=
  h.map fun F fp s q => ⟨[], RpL.one.mpr (((RpL.one.mp q).nl n).2 _ _), List.nil_sublist _⟩
theorem I.mkR (h : I K H0 F0 ρ σ (g1 o t v :: τ) H) : I K H0 F0 (Ev.mk t o ρ).ρ σ (g1 (Ev.mk t o ρ).o (Ev.mk t o ρ).t v :: τ) H := by
  unfold Ev.mk
  split
  · rename_i n; exact h.nl n
  · exact h
/-- a new object at p: what is claimed of it, no one's own ahead -/
theorem I.lay {p : Addr} {ob : HO} {o' : Own} {t : T} (h : I K H0 F0 ρ σ (⟨o, ts, vs⟩ :: τ) H) (hp : H p = none)
    (q : ∀ F fp, Same F H → F p = none → RpL K F (upd H p ob) o ts vs fp → ∃ hd, Rp K F (upd H p ob) o' t (.ref p) (hd ++ fp) ∧ (hd = [] ∨ hd = [p])) : I K H0 F0 ρ σ (g1 o' t (.ref p) :: τ) (upd H p ob) := by
  have s := same_upd (o := ob) hp
  obtain ⟨F, fρ, fτ, c⟩ := h
  obtain ⟨f1, f2, h1, h2, rfl⟩ := c.tmp
  have Fp : F p = none := c.fh.free hp
  have npρ : p ∉ fρ := fun m => by
    obtain ⟨xs, e⟩ := c.env.fp_own p m
    rw [hp] at e; cases e
  have np1 : p ∉ f1 := fun m => by
    obtain ⟨xs, e⟩ := RpL.own h1 p m
    rw [hp] at e; cases e
  have np2 : p ∉ f2 := fun m => by
    obtain ⟨xs, e⟩ := h2.fp_own p m
    rw [hp] at e; cases e
  have k1 : RpL K F (upd H p ob) o ts vs f1 := RpL.keep ⟨fun _ _ e => e, fun _ _ e => SqT.mono (fun _ => Same.rd s) e, fun a m => ⟨s a, (c.ow a (by simp [m])).2⟩, fun _ => s⟩ h1
  obtain ⟨hd, r, ehd⟩ := q F f1 c.fh Fp k1
  refine ⟨F, fρ, (hd ++ f1) ++ f2, c.fh.trans s, c.h0.trans s, c.f0, fun a m => ?_, ?_, c.env.keep ⟨fun _ _ e => e, fun _ _ e => SqT.mono (fun _ => Same.rd s) e, fun a m => ⟨s a, (c.ow a (by simp [m])).2⟩, fun e => by cases e⟩,
    hd ++ f1, f2, RpL.one.mpr r, h2.keep (b := true) (Keep.grow s fun a m => (c.ow a (by simp [m])).2) (fun e => by cases e), rfl⟩
  · rcases ehd with rfl | rfl
    · exact c.ow a (by simpa using m)
    · by_cases ea : a = p
      · subst ea; exact ⟨c.h0.free hp, Fp⟩
      · exact c.ow a (by simp only [List.mem_append, List.mem_singleton] at m ⊢; grind)
  · rcases ehd with rfl | rfl
    · simpa using c.nd
    · have nd := c.nd
      have e : (fρ ++ ([p] ++ f1 ++ f2)).Perm (p :: (fρ ++ (f1 ++ f2))) := by
        simp only [List.singleton_append, List.cons_append]
        exact List.perm_middle
      rw [e.nodup_iff, List.nodup_cons]
      exact ⟨by simp [npρ, np1, np2], nd⟩
/-- a new list of the values on top -/
theorem I.newLst {p : Addr} (h : I K H0 F0 ρ σ (⟨o, ts, vs⟩ :: τ) H) (ho : o = .full ∨ o = .cold) (hp : H p = none) : I K H0 F0 ρ σ (g1 (if o.isFull then .full else .shal) (.lst ts) (.ref p) :: τ) (upd H p (.lst vs)) := by
  refine h.lay hp fun F fp s Fp r => ⟨[p], ?_, .inr rfl⟩
  simp only [Rp]
  refine ⟨p, vs, [p], fp, rfl, ?_, ?_, rfl⟩
  · rcases ho with rfl | rfl
    · exact ⟨upd_same, Fp, rfl⟩
    · exact ⟨upd_same, Fp, rfl⟩
  · rcases ho with rfl | rfl
    · exact r
    · exact r
/-- a new tuple -/
theorem I.newTup {p : Addr} (h : I K H0 F0 ρ σ (⟨o, ts, vs⟩ :: τ) H) (ho : o = .full ∨ o = .cold) (hp : H p = none) : I K H0 F0 ρ σ (g1 o (.tup ts) (.ref p) :: τ) (upd H p (.tup vs)) := by
  refine h.lay hp fun F fp s Fp r => ⟨[], ?_, .inl rfl⟩
  simp only [Rp]
  refine ⟨p, vs, rfl, SqT.of upd_same, ?_⟩
  rcases ho with rfl | rfl
  · exact r
  · exact r
/-- two groups as one -/
theorem I.join {ts' : List T} {vs' : List V} (h : I K H0 F0 ρ σ (⟨o, ts, vs⟩ :: ⟨o, ts', vs'⟩ :: τ) H) : I K H0 F0 ρ σ (⟨o, ts ++ ts', vs ++ vs'⟩ :: τ) H := by
  obtain ⟨F, fρ, fτ, c⟩ := h
  obtain ⟨f1, f2, h1, ⟨f3, f4, h3, h4, rfl⟩, rfl⟩ := c.tmp
  exact ⟨F, fρ, (f1 ++ f3) ++ f4, c.fh, c.h0, c.f0, fun a m => c.ow a (by simpa using m), by simpa using c.nd, c.env, f1 ++ f3, f4, RpL.append h1 h3, h4, rfl⟩
/-- what stands on top, to be turned -/
theorem I.top (h : I K H0 F0 ρ σ (g :: τ) H) : ∃ F fp, Same F H ∧ RpL K F H g.o g.ts g.vs fp ∧
    (∀ o' ts' vs' fp', RpL K F H o' ts' vs' fp' → fp'.Sublist fp → I K H0 F0 ρ σ (⟨o', ts', vs'⟩ :: τ) H) ∧ ∀ o' ts' vs', RpL K F H o' ts' vs' [] → I K H0 F0 ρ σ (⟨o', ts', vs'⟩ :: g :: τ) H := by
  obtain ⟨F, fρ, fτ, c⟩ := h
  obtain ⟨f1, f2, h1, h2, e⟩ := id c.tmp
  subst e
  refine ⟨F, f1, c.fh, h1, fun o' ts' vs' fp' r sub => ⟨F, fρ, fp' ++ f2, c.fh, c.h0, c.f0, fun a m => c.ow a ?_, c.nd.sublist ?_, c.env, fp', f2, r, h2, rfl⟩,
    fun o' ts' vs' r => ⟨F, fρ, f1 ++ f2, c.fh, c.h0, c.f0, c.ow, c.nd, c.env, [], f1 ++ f2, r, c.tmp, rfl⟩⟩
  · simp only [List.mem_append] at m ⊢
    rcases m with m | m | m
    · exact .inl m
    · exact .inr (.inl (sub.subset m))
    · exact .inr (.inr m)
  · exact List.Sublist.append (List.Sublist.refl _) (List.Sublist.append sub (List.Sublist.refl _))
/-- the items of a list on top -/
theorem I.kidsL {xs : List T} (h : I K H0 F0 ρ σ (g1 o (.lst xs) v :: τ) H) : ∃ a ws, v = .ref a ∧ Rd H a (.lst ws) ∧ xs.length = ws.length ∧ I K H0 F0 ρ σ (⟨kidR o, xs, ws⟩ :: τ) H ∧
    (o = .full ∨ o = .shal → H a = some (.lst ws)) := by
  obtain ⟨F, fp, s, r, turn, _⟩ := h.top
  have r := RpL.one.mp r
  simp only [Rp] at r
  obtain ⟨a, ws, hd, fp', rfl, q, r, ef⟩ := r
  refine ⟨a, ws, rfl, q.view s, r.len, turn _ _ _ fp' r (by rw [ef]; exact List.sublist_append_right _ _), fun e => ?_⟩
  rcases e with rfl | rfl
  · exact q.1
  · exact q.1
theorem I.kidsT {xs : List T} (h : I K H0 F0 ρ σ (g1 o (.tup xs) v :: τ) H) : ∃ a ws, v = .ref a ∧ SqT K H a ws ∧ xs.length = ws.length ∧ I K H0 F0 ρ σ (⟨kidR o, xs, ws⟩ :: τ) H := by
  obtain ⟨F, fp, s, r, turn, _⟩ := h.top
  have r := RpL.one.mp r
  simp only [Rp] at r
  obtain ⟨a, ws, rfl, q, r⟩ := r
  exact ⟨a, ws, rfl, q, r.len, turn _ _ _ fp r (List.Sublist.refl _)⟩
/-- one item of what stands on top -/
theorem I.pick {x : T} {j : Nat} (h : I K H0 F0 ρ σ (⟨o, ts, vs⟩ :: τ) H) (e : ts[j]? = some x) : ∃ v, vs[j]? = some v ∧ I K H0 F0 ρ σ (g1 o x v :: τ) H := by
  obtain ⟨F, fp, s, r, turn, _⟩ := h.top
  obtain ⟨v, l, f, q, ev, rx, ef⟩ := RpL.get r e
  exact ⟨v, ev, turn _ _ _ f (RpL.one.mpr rx) (by rw [ef]; exact (List.sublist_append_left _ _).trans (List.sublist_append_right _ _))⟩
/-- plain values -/
theorem I.isInt {i : Int} (h : I K H0 F0 ρ σ (g1 o (.int i) v :: τ) H) : v = .int i := by
  obtain ⟨F, fp, s, r, _⟩ := h.top
  have r := RpL.one.mp r
  simp only [Rp] at r
  exact r.1
theorem I.isBl {b : Bool} (h : I K H0 F0 ρ σ (g1 o (.bl b) v :: τ) H) : v = .bl b := by
  obtain ⟨F, fp, s, r, _⟩ := h.top
  have r := RpL.one.mp r
  simp only [Rp] at r
  exact r.1
theorem I.isNon (h : I K H0 F0 ρ σ (g1 o .non v :: τ) H) : v = .non := by
  obtain ⟨F, fp, s, r, _⟩ := h.top
  have r := RpL.one.mp r
  simp only [Rp] at r
  exact r.1
theorem I.isStr {x : List Nat} (h : I K H0 F0 ρ σ (g1 o (.str x) v :: τ) H) : v = .str ⟨x.toArray⟩ ∧ Ascii x := by
  obtain ⟨F, fp, s, r, _⟩ := h.top
  have r := RpL.one.mp r
  simp only [Rp] at r
  exact ⟨r.1, r.2.2⟩
theorem I.int (h : I K H0 F0 ρ σ τ H) (i : Int) : I K H0 F0 ρ σ (g1 .full (.int i) (.int i) :: τ) H := h.push fun F s => RpL.one.mpr (by simp [Rp])
theorem I.bl (h : I K H0 F0 ρ σ τ H) (b : Bool) : I K H0 F0 ρ σ (g1 .full (.bl b) (.bl b) :: τ) H := h.push fun F s => RpL.one.mpr (by simp [Rp])
theorem I.non (h : I K H0 F0 ρ σ τ H) : I K H0 F0 ρ σ (g1 .full .non .non :: τ) H := h.push fun F s => RpL.one.mpr (by simp [Rp])
theorem I.str (h : I K H0 F0 ρ σ τ H) {x : List Nat} (a : Ascii x) : I K H0 F0 ρ σ (g1 .full (.str x) (.str ⟨x.toArray⟩) :: τ) H := h.push fun F s => RpL.one.mpr (by simp [Rp, a])
theorem I.nil (h : I K H0 F0 ρ σ τ H) : I K H0 F0 ρ σ (⟨o, [], []⟩ :: τ) H := h.push fun F s => by simp only [RpL]
end
end Ev
namespace Ev
open PySem PySem.Spec PyProof.Rows L2
def S8 (x : List Nat) : Str := ⟨x.toArray⟩
def BO.op : BO → Operator
  | .add => .Add | .sub => .Sub | .mul => .Mult | .fdiv => .FloorDiv | .mod => .Mod | .pow => .Pow
def CO.op : CO → CmpOp
  | .eq => .Eq | .ne => .NotEq | .lt => .Lt | .le => .LtE | .gt => .Gt | .ge => .GtE | .is => .Is | .isn => .IsNot | .mem => .In | .nmem => .NotIn
def BF.nm : BF → Str
  | .len => "len" | .abs => "abs" | .int => "int" | .bool => "bool" | .str => "str" | .list => "list" | .tuple => "tuple" | .sum => "sum" | .any => "any" | .all => "all" | .gcd => "gcd"
  | .max2 => "max" | .min2 => "min" | .max => "max" | .min => "min" | .sorted => "sorted" | .ord => "ord" | .chr => "chr" | .repr => "repr"
/-- the slots of the law's own def: a name that no text has stands among them -/
def topN (N : List Str) : Bool := N.contains ("!top" : Str)
def CT.nm : CT → Str
  | .int => "int" | .bool => "bool" | .str => "str" | .list => "list" | .tuple => "tuple"
def MF.nm : MF → Str
  | .sindex => "index" | .join => "join" | .split1 => "split" | .lindex => "index" | .scount => "count" | .startswith => "startswith" | .endswith => "endswith"
def visB (sc : Scope) (x : Str) : Bool := match sc.names.lookup x with
  | some .local => true
  | some .cell => true
  | some .free => true
  | _ => false
def locB (sc : Scope) (x : Str) : Bool := match sc.names.lookup x with
  | some .local => true
  | some .cell => true
  | _ => false
def glB (sc : Scope) (x : Str) : Bool := match sc.names.lookup x with
  | some .globalImplicit => true
  | _ => false
def dunB (x : Str) : Bool := (x == ("__debug__" : Str)) || (x == ("__classdict__" : Str)) || decide (x = ("__name__" : Str))
def ascB (s : List Nat) : Bool := decide (s.length ≤ sizeLine) && s.all fun c => decide (c < 128)
/-- a name of slot i -/
def nmB (N : List Str) (sc : Scope) (i : Nat) (x : Str) : Bool := decide (N[i]? = some x) && visB sc x && !dunB x
/-- a global name -/
def gnB (sc : Scope) (x y : Str) : Bool := decide (x = y) && glB sc y && !dunB y
mutual
def mG (N : List Str) (sc : Scope) : Tg → Expr → Bool
  | .nm i, pe => match pe with
    | .Name x _ => decide (N[i]? = some x) && locB sc x
    | _ => false
  | .tp ts, pe => match pe with
    | .Tuple ps _ _ => mGs N sc ts ps
    | _ => false
def mGs (N : List Str) (sc : Scope) : List Tg → List Expr → Bool
  | [], pes => match pes with
    | [] => true
    | _ => false
  | t :: ts, pes => match pes with
    | p :: ps => mG N sc t p && mGs N sc ts ps
    | _ => false
end
mutual
def tgIn (own : List Nat) : Tg → Bool
  | .nm i => own.contains i
  | .tp ts => tgsIn own ts
def tgsIn (own : List Nat) : List Tg → Bool
  | [] => true
  | t :: ts => tgIn own t && tgsIn own ts
end
def E.two : E → Bool
  | .zip _ _ => true
  | .enum _ => true
  | _ => false
def Tg.isTp : Tg → Bool
  | .tp _ => true
  | _ => false
/-- plain numbers -/
def isPI : E → Bool
  | .int _ => true
  | .var _ => true
  | .bin .add a b => isPI a && isPI b
  | .bin .sub a b => isPI a && isPI b
  | .neg a => isPI a
  | _ => false
section
variable (U : BF → Bool) (N : List Str)
mutual
def mE : Scope → E → Expr → Bool
  | _, .int i, pe => match pe with
    | .Constant (.int j) _ _ => decide (i = j)
    | _ => false
  | _, .bl i, pe => match pe with
    | .Constant (.bool j) _ _ => decide (i = j)
    | _ => false
  | _, .non, pe => match pe with
    | .Constant .none _ _ => true
    | _ => false
  | _, .str s, pe => match pe with
    | .Constant (.str x) _ _ => decide (x = S8 s) && ascB s
    | _ => false
  | sc, .var i, pe => match pe with
    | .Name x _ => nmB N sc i x
    | _ => false
  | sc, .mov i, pe => match pe with
    | .Name x _ => nmB N sc i x
    | _ => false
  | sc, .glob g, pe => match pe with
    | .Name x _ => gnB sc (S8 g) x
    | _ => false
  | sc, .bin op a b, pe => match pe with
    | .BinOp pa pop pb _ => decide (pop = op.op) && mE sc a pa && mE sc b pb
    | _ => false
  | sc, .neg a, pe => match pe with
    | .UnaryOp .USub pa _ => mE sc a pa
    | _ => false
  | sc, .notv a, pe => match pe with
    | .UnaryOp .Not pa _ => mE sc a pa
    | _ => false
  | sc, .cmp op a b, pe => match pe with
    | .Compare pa [pop] [pb] _ => decide (pop = op.op) && mE sc a pa && mE sc b pb
    | _ => false
  | sc, .chain op op' a b c, pe => match pe with
    | .Compare pa [pop, pop'] [pb, pc] _ => decide (pop = op.op) && decide (pop' = op'.op) && mE sc a pa && mE sc b pb && mE sc c pc
    | _ => false
  | sc, .andv es, pe => match pe with
    | .BoolOp .And ps _ => mEs sc es ps
    | _ => false
  | sc, .orv es, pe => match pe with
    | .BoolOp .Or ps _ => mEs sc es ps
    | _ => false
  | sc, .ife c a b, pe => match pe with
    | .IfExp pc pa pb _ => mE sc c pc && mE sc a pa && mE sc b pb
    | _ => false
  | sc, .tup es, pe => match pe with
    | .Tuple ps _ _ => mEs sc es ps
    | _ => false
  | sc, .lst es, pe => match pe with
    | .List ps _ => mEs sc es ps
    | _ => false
  | sc, .ix a i, pe => match pe with
    | .Subscript pa pi _ => mE sc a pa && mE sc i pi
    | _ => false
  | sc, .sl a lo hi, pe => match pe with
    | .Subscript pa (.Slice pl ph none _) _ => mE sc a pa && mEs sc lo pl.toList && mEs sc hi ph.toList
    | _ => false
  | sc, .rev a, pe => match pe with
    | .Subscript pa (.Slice none none (some (.UnaryOp .USub (.Constant (.int 1) _ _) _)) _) _ => mE sc a pa
    | _ => false
  | sc, .call f es, pe => match pe with
    | .Call (.Name x _) (p :: ps) [] _ => gnB sc (S8 f) x && !isOwn f && mEs sc es (p :: ps)
    | _ => false
  | sc, .blt f es, pe => match pe with
    | .Call (.Name x _) (p :: ps) [] _ => gnB sc f.nm x && U f && (!decide (f = .repr) || topN N) && mEs sc es (p :: ps)
    | _ => false
  | sc, .isi a c, pe => match pe with
    | .Call (.Name x _) [pa, .Name y _] [] _ => gnB sc "isinstance" x && gnB sc c.nm y && mE sc a pa
    | _ => false
  | sc, .meth f o es, pe => match pe with
    | .Call (.Attribute po m apos) [p] [] cpos => decide (m = f.nm) && (apos.endLine == cpos.line) && mE sc o po && mEs sc es [p]
    | _ => false
  | sc, .lc elt tg it ifs own, pe => match pe with
    | .ListComp pelt [⟨ptg, pit, pifs, 0⟩] scope _ => blkC N sc scope (own.filterMap fun i => (N[i]?).map fun x => (x, i)) && decide ((own.filterMap fun i => (N[i]?).map fun x => (x, i)).map (·.2) = own) &&
      (!it.two || tg.isTp) && mE sc it pit && mG N scope tg ptg && tgIn own tg && mEs (relS scope sc) ifs pifs && mE (relS scope sc) elt pelt && decide (pifs.length ≤ 1)
    | _ => false
  | _, .lc2 _ _ _ _ _ _ _ _ _, _ => false
  | sc, .rng es, pe => match pe with
    | .Call (.Name x _) (p :: ps) [] _ => gnB sc "range" x && mEs sc es (p :: ps)
    | _ => false
  | sc, .zip a b, pe => match pe with
    | .Call (.Name x _) [pa, pb] [] _ => gnB sc "zip" x && mE sc a pa && mE sc b pb
    | _ => false
  | sc, .enum a, pe => match pe with
    | .Call (.Name x _) [pa] [] _ => gnB sc "enumerate" x && mE sc a pa
    | _ => false
  | sc, .revd a, pe => match pe with
    | .Call (.Name x _) [pa] [] _ => gnB sc "reversed" x && mE sc a pa
    | _ => false
  | sc, .pth i kr, pe => !kr.isEmpty && mPs sc i kr pe
def mPs : Scope → Nat → List E → Expr → Bool
  | sc, i, [], pe => match pe with
    | .Name x _ => nmB N sc i x
    | _ => false
  | sc, i, e :: es, pe => match pe with
    | .Subscript po pk _ => isPI e && mE sc e pk && mPs sc i es po
    | _ => false
def mEs : Scope → List E → List Expr → Bool
  | _, [], pes => match pes with
    | [] => true
    | _ => false
  | sc, e :: es, pes => match pes with
    | p :: ps => mE sc e p && mEs sc es ps
    | _ => false
end
end
/-- what is known of the module: the names of built-ins that are used, the constants, the defs -/
structure MOk (K : PySem.W.Frag) (mg : Str → Option Value) (U : BF → Bool) (G : List Nat → Option T) : Prop where
  blt : ∀ f, U f = true → f ≠ .gcd → mg f.nm = none
  gcd : U .gcd = true → mg "gcd" = some (.builtin "math.gcd")
  isi : mg "isinstance" = none
  cls : ∀ c : CT, mg c.nm = none
  rng : mg "range" = none
  zip : mg "zip" = none
  enm : mg "enumerate" = none
  rvd : mg "reversed" = none
  glob : ∀ x t, G x = some t → ∃ u v, mg (S8 x) = some u ∧ RelV v u ∧ ∀ F H, Rp K F H .cold t v []
/-- the promise of a def: what the evaluator says of it -/
def spC (K : PySem.W.Frag) (np : Nat) (C : List T → Option (T × Own)) : Sp := fun vs H Q _ => vs.length = np ∧ ∃ F ts t o, Same F H ∧ RpL K F H .cold ts vs [] ∧ C ts = some (t, o) ∧
  ∀ v H', I K H F [] [] [g1 o t v] H' → Q v H'
/-- the promise of a def that changes its first argument, which is the caller's own: an answer and the argument as it is now -/
def spO (K : PySem.W.Frag) (np : Nat) (C : List T → Option (T × Own)) : Sp := fun vs H Q _ => vs.length = np ∧ ∃ H0 F t0 ts v0 ws fp b t1, vs = v0 :: ws ∧ Same H0 H ∧ Same F H ∧ (∀ a ∈ fp, H0 a = none ∧ F a = none) ∧ fp.Nodup ∧
  Rp K F H .full t0 v0 fp ∧ RpL K F H .cold ts ws [] ∧ C (t0 :: ts) = some (.tup [.bl b, t1], .full) ∧ ∀ H', I K H0 F [] [] [g1 .full t1 v0] H' → Q (.bl b) H'
structure COk (P : Program) (w : World) (K : PySem.W.Frag) (mg : Str → Option Value) (base : Heap) (k : Nat) (C : List Nat → List T → Option (T × Own)) : Prop where
  own : ∀ f, (∃ ts r, C (0 :: f) ts = some r) → ∃ a fd ps, mg (S8 f) = some (.ref a) ∧ PySem.W.keepIn K (.ref a) = true ∧ Binds K fd ps [] ∧ FnOk P w K mg base CX0 k a fd ps (spO K ps.length (C (0 :: f))) ∧ ∀ ts r, C (0 :: f) ts = some r → ts.length = ps.length
  fn : ∀ f, isOwn f = false → (∃ ts r, C f ts = some r) → ∃ a fd ps, mg (S8 f) = some (.ref a) ∧ PySem.W.keepIn K (.ref a) = true ∧ Binds K fd ps [] ∧ FnOk P w K mg base CX0 k a fd ps (spC K ps.length (C f)) ∧ ∀ ts r, C f ts = some r → ts.length = ps.length
  nv : ∀ f ts r, C f ts = some r → r.2.isView = false
structure XOk (P : Program) (w : World) (K : PySem.W.Frag) (mg : Str → Option Value) (base : Heap) (k : Nat) (N : List Str) (sc : Scope) (X : Cx) : Prop where
  prog : X.prog = P
  w_ : X.w = w
  K_ : X.K = K
  mg_ : X.mg = mg
  base_ : X.base = base
  N_ : X.N = N
  nd : N.Nodup
  sc_ : X.env.scope = sc
  calm : X.calm = true
  room : Room k X.A
  gd : topN N = true → X.A.guards = some []
/-- nothing is only seen -/
def NoV (τ : List Gp) : Prop := ∀ g ∈ τ, g.o.isView = false
section
variable (P : Program) (w : World) (K : PySem.W.Frag) (mg : Str → Option Value) (base : Heap) (k : Nat) (N : List Str) (sc : Scope)
/-- an expression's value -/
def SV (d : Den) (pe : Expr) : Prop := ∀ X, XOk P w K mg base k N sc X → ∃ t, PE X pe t ∧ ∀ H0 F0 ρ σ τ H r Q, I K H0 F0 ρ σ τ H → (d.c = true → NoV τ) → d.v ρ = some r →
  (∀ v H', I K H0 F0 r.ρ σ (g1 r.o r.t v :: τ) H' → (∀ i, r.o = .view i → σ[i]? = some (some v)) → Q v H') → t σ H Q
/-- its truth -/
def ST (d : Den) (pe : Expr) : Prop := ∀ X, XOk P w K mg base k N sc X → ∃ t, PT X pe t ∧ ∀ H0 F0 ρ σ τ H r Q, I K H0 F0 ρ σ τ H → (d.c = true → NoV τ) → d.t ρ = some r →
  (∀ H', I K H0 F0 r.2 σ τ H' → Q r.1 H') → t σ H Q
/-- a walk over the trees xs; g: what must stand meanwhile -/
structure Wk (K : PySem.W.Frag) (xs : List T) (J : It) (g : Gp) : Prop where
  cold : g.o = .cold
  go : ∀ i H0 F0 ρ σ τ H, I K H0 F0 ρ σ (g :: τ) H → i < xs.length → J.go i H
  yld : ∀ i x H0 F0 ρ σ τ H v H', I K H0 F0 ρ σ (g :: τ) H → xs[i]? = some x → J.yld i H v H' → I K H0 F0 ρ σ (g1 .cold x v :: g :: τ) H'
  stop : ∀ i H0 F0 ρ σ τ H, I K H0 F0 ρ σ (g :: τ) H → xs.length ≤ i → J.stop i H
/-- what it walks -/
def SI (d : Den) (tg pe : Expr) : Prop := ∀ X, XOk P w K mg base k N sc X → ∃ t, PI X tg pe t ∧ ∀ H0 F0 ρ σ τ H r R, I K H0 F0 ρ σ τ H → (d.c = true → NoV τ) → d.i ρ = some r →
  (∀ J g H', Wk K r.1 J g → I K H0 F0 r.2 σ (g :: τ) H' → R J H') → t σ H R
end
/-- forms that need no care -/
structure Plain (pe : Expr) : Prop where
  star : ∀ es env, starEach (pe :: es) env = (false, eval pe env) :: starEach es env
  fsi : ∀ env x, foldedSetIterable pe env x = pure x
  ix : PlainIx pe
  att : ∀ nm env whole, attributeBase pe nm env whole = whole
  mark : ∀ op, behindInMarks op pe = false
/-- its test is its value's truth -/
def TruE (pe : Expr) : Prop := ∀ env whole, isTrue pe env whole = (do let v ← whole; standAt pe.pos; holding [v] (truthy v))
def NoLc (pe : Expr) : Prop := ∀ tg line env, swapsWith pe tg line env = pure false
end Ev
namespace Ev
open PySem PySem.Spec PyProof.Rows L2
theorem obind {α β : Type} {x : Option α} {f : α → Option β} {b : β} (h : x.bind f = some b) : ∃ a, x = some a ∧ f a = some b := Option.bind_eq_some_iff.mp h
theorem omap {α β : Type} {x : Option α} {f : α → β} {b : β} (h : x.map f = some b) : ∃ a, x = some a ∧ f a = b := Option.map_eq_some_iff.mp h
theorem visOf {sc : Scope} {x : Str} (h : visB sc x = true) : Vis sc x := by
  unfold visB at h
  split at h
  · rename_i e; exact .inl e
  · rename_i e; exact .inr (.inl e)
  · rename_i e; exact .inr (.inr e)
  · cases h
theorem locOf {sc : Scope} {x : Str} (h : locB sc x = true) : Loc sc x := by
  unfold locB at h
  split at h
  · rename_i e; exact .inl e
  · rename_i e; exact .inr e
  · cases h
theorem dunOf {x : Str} (h : dunB x = false) : (x == ("__debug__" : Str)) = false ∧ (x == ("__classdict__" : Str)) = false ∧ x ≠ "__name__" := by
  unfold dunB at h
  simp only [Bool.or_eq_false_iff, decide_eq_false_iff_not] at h
  exact ⟨h.1.1, h.1.2, h.2⟩
theorem nmOf {N : List Str} {sc : Scope} {i : Nat} {x : Str} (h : nmB N sc i x = true) : N[i]? = some x ∧ Vis sc x ∧ (x == ("__debug__" : Str)) = false ∧ (x == ("__classdict__" : Str)) = false := by
  unfold nmB at h
  simp only [Bool.and_eq_true, decide_eq_true_eq, Bool.not_eq_true'] at h
  obtain ⟨⟨h1, h2⟩, h3⟩ := h
  exact ⟨h1, visOf h2, (dunOf h3).1, (dunOf h3).2.1⟩
theorem gnOf {sc : Scope} {x y : Str} (h : gnB sc x y = true) : x = y ∧ sc.names.lookup y = some .globalImplicit ∧ (y == ("__debug__" : Str)) = false ∧ y ≠ "__name__" := by
  unfold gnB glB at h
  simp only [Bool.and_eq_true, decide_eq_true_eq, Bool.not_eq_true'] at h
  obtain ⟨⟨h1, h2⟩, h3⟩ := h
  refine ⟨h1, ?_, (dunOf h3).1, (dunOf h3).2.2⟩
  split at h2
  · rename_i e; exact e
  · cases h2
section
variable {P : Program} {w : World} {K : PySem.W.Frag} {mg : Str → Option Value} {base : Heap} {k : Nat} {N : List Str} {sc : Scope} {U : BF → Bool} {G : List Nat → Option T} {C : List Nat → List T → Option (T × Own)}
variable {X : Cx} {H0 F0 H H' : Hp} {ρ ρ' : Env} {σ : L2.St} {τ : List Gp} {t u y : T} {o q : Own} {va vb v : V} {r : R} {Q : VK}
theorem XOk.gl (ok : XOk P w K mg base k N sc X) {x : Str} (h : sc.names.lookup x = some .globalImplicit) : Gl X x := by
  show X.env.scope.names.lookup x = _
  rw [ok.sc_]; exact h
theorem NoV.cons {g : Gp} (h : g.o.isView = false) (n : NoV τ) : NoV (g :: τ) := fun x m => by
  rcases List.mem_cons.mp m with rfl | m
  · exact h
  · exact n x m
/-- a value ahead of a comprehension is shared first -/
theorem I.vo {c : Bool} {r0 : R} (h : I K H0 F0 r0.ρ σ (g1 r0.o r0.t v :: τ) H) (e : vo c r0 = some r) (lk : ∀ i, r0.o = .view i → σ[i]? = some (some v)) : I K H0 F0 r.ρ σ (g1 r.o r.t v :: τ) H ∧ (∀ i, r.o = .view i → σ[i]? = some (some v)) ∧ (c = true → r.o.isView = false) := by
  unfold Ev.vo at e
  split at e
  · obtain ⟨nv, h'⟩ := h.val e lk
    exact ⟨h', (fun i z => by rw [z] at nv; cases nv), fun _ => nv⟩
  · rename_i hc
    cases e
    exact ⟨h, lk, fun z => absurd z hc⟩
theorem sv_const {d : Den} {pe : Expr} {v : V} {t : T} (hp : ∀ X, PE X pe (tC v)) (hd : ∀ ρ, d.v ρ = some ⟨t, .full, ρ⟩) (hr : ∀ F H, Rp K F H .full t v []) : SV P w K mg base k N sc d pe := fun X ok =>
  ⟨tC v, hp X, fun H0 F0 ρ σ τ H r Q hI hv he q => by
    rw [hd] at he
    cases he
    exact q v H (hI.push fun F s => RpL.one.mpr (hr F H)) (fun _ e => by cases e)⟩
theorem sv_var {i : Nat} {x : Str} {pos : Pos} (h : nmB N sc i x = true) : SV P w K mg base k N sc (den G C (.var i)) (.Name x pos) := fun X ok => by
  obtain ⟨h1, h2, h3, h4⟩ := nmOf h
  refine ⟨tVar i, pe_var (by rw [ok.N_]; exact h1) (by rw [ok.sc_]; exact h2) h3 h4, fun H0 F0 ρ σ τ H r Q hI hv he q => ?_⟩
  simp only [den, valD] at he
  split at he
  · rename_i t o e
    obtain ⟨v, ev, nv, hvw, _, hn⟩ := hI.look e
    refine ⟨v, ev, ?_⟩
    split at he
    · rename_i n
      cases he
      exact q v H (hn n) (fun _ e => by cases e)
    · cases he
      exact q v H (hvw i) (fun j e => by cases e; exact ev)
  · cases he
theorem sv_mov {i : Nat} {x : Str} {pos : Pos} (h : nmB N sc i x = true) : SV P w K mg base k N sc (den G C (.mov i)) (.Name x pos) := fun X ok => by
  obtain ⟨h1, h2, h3, h4⟩ := nmOf h
  refine ⟨tVar i, pe_var (by rw [ok.N_]; exact h1) (by rw [ok.sc_]; exact h2) h3 h4, fun H0 F0 ρ σ τ H r Q hI hv he q => ?_⟩
  simp only [den, valD] at he
  split at he
  · rename_i t o e
    split at he
    · rename_i n
      cases he
      obtain ⟨v, ev, nv, hvw, _, hn⟩ := hI.look e
      exact ⟨v, ev, q v H (hn n) (fun _ e => by cases e)⟩
    · cases he
      obtain ⟨v, ev, nv, hmv⟩ := hI.mov e
      exact ⟨v, ev, q v H hmv (fun j e => by
        have e : o = .view j := e
        rw [e] at nv; cases nv)⟩
  · cases he
theorem mk_view {t : T} {o : Own} {ρ : Env} (h : o.isView = false) : (mk t o ρ).o.isView = false := by
  unfold mk; split
  · rfl
  · exact h
theorem nolink {o : Own} {σ : L2.St} {v : V} (h : o.isView = false) : ∀ i, o = .view i → σ[i]? = some (some v) := fun i e => by rw [e] at h; cases h
theorem sv_glob {g : List Nat} {x : Str} {pos : Pos} (M : MOk K mg U G) (h : gnB sc (S8 g) x = true) : SV P w K mg base k N sc (den G C (.glob g)) (.Name x pos) := fun X ok => by
  obtain ⟨rfl, h2, h3, h4⟩ := gnOf h
  cases e : G g with
  | none => exact ⟨fun _ _ _ => False, ⟨fun _ _ _ _ _ _ z => z.elim⟩, fun H0 F0 ρ σ τ H r Q hI hv he q => by simp [den, valD, e] at he⟩
  | some t =>
    obtain ⟨u, v, e1, e2, e3⟩ := M.glob g t e
    refine ⟨tC v, pe_glob (ok.gl h2) (by rw [ok.mg_]; exact e1) e2 h3, fun H0 F0 ρ σ τ H r Q hI hv he q => ?_⟩
    simp only [den, valD, e, Option.map_some, Option.some.injEq] at he
    subst he
    exact q v H (I.mkR (hI.push fun F s => RpL.one.mpr (e3 F H))) (nolink (mk_view rfl))
theorem I.nlG {ts : List T} {vs : List V} {o o' : Own} (h : I K H0 F0 ρ σ (⟨o, ts, vs⟩ :: τ) H) (n : nlL ts = true) : I K H0 F0 ρ σ (⟨o', ts, vs⟩ :: τ) H :=
  h.map fun F fp s q => ⟨[], (q.nl n).2 _ _, List.nil_sublist _⟩
theorem nlL_append : ∀ {xs ys : List T}, nlL (xs ++ ys) = (nlL xs && nlL ys)
  | [], ys => by simp [nlL]
  | x :: xs, ys => by simp [nlL, nlL_append (xs := xs), Bool.and_assoc]
/-- the items of two lists together, from the second one on top -/
theorem I.kids2L {xs ys : List T} {c : Own} (hc : kidR c = c) (h : I K H0 F0 ρ σ (g1 c (.lst ys) vb :: g1 c (.lst xs) va :: τ) H) : ∃ a b ws zs, va = .ref a ∧ vb = .ref b ∧ Rd H a (.lst ws) ∧ Rd H b (.lst zs) ∧ xs.length = ws.length ∧ ys.length = zs.length ∧
    I K H0 F0 ρ σ (⟨c, xs ++ ys, ws ++ zs⟩ :: τ) H := by
  obtain ⟨b, zs, eb, rb, lb, h1, _⟩ := h.kidsL
  obtain ⟨a, ws, ea, ra, la, h2, _⟩ := h1.swap.kidsL
  rw [hc] at h2
  exact ⟨a, b, ws, zs, ea, eb, ra, rb, la, lb, h2.join⟩
theorem I.kids2T {xs ys : List T} {c : Own} (hc : kidR c = c) (h : I K H0 F0 ρ σ (g1 c (.tup ys) vb :: g1 c (.tup xs) va :: τ) H) : ∃ a b ws zs, va = .ref a ∧ vb = .ref b ∧ SqT K H a ws ∧ SqT K H b zs ∧ xs.length = ws.length ∧ ys.length = zs.length ∧
    I K H0 F0 ρ σ (⟨c, xs ++ ys, ws ++ zs⟩ :: τ) H := by
  obtain ⟨b, zs, eb, rb, lb, h1⟩ := h.kidsT
  obtain ⟨a, ws, ea, ra, la, h2⟩ := h1.swap.kidsT
  rw [hc] at h2
  exact ⟨a, b, ws, zs, ea, eb, ra, rb, la, lb, h2.join⟩
def rCatQ : R2 := fun x y H Q => ∃ l b xs zs, x = .ref l ∧ y = .ref b ∧ Rd H l (.lst xs) ∧ Rd H b (.lst zs) ∧ xs.length + zs.length ≤ sizeLine ∧ ∀ p, H p = none → Q (.ref p) (upd H p (.lst (xs ++ zs)))
theorem rd_lst {X : Cx} {pins : List (Addr × Obj)} {σ : L2.St} {H : Hp} {s : Shared} {l : Addr} {xs : List V} (I : Inv X pins σ H s) (hH : Rd H l (.lst xs)) : xs.length ≤ sizeLine ∧ ∃ (its : List Value) (n : Nat), Vals xs its ∧ xs.length = its.length ∧ s.heap.get? l = some { cls := .type "list", data := .seq its.toArray n } := by
  obtain ⟨z, its, n, r, e⟩ := hH.ok I.hok
  exact ⟨z, its, n, r, r.length, e⟩
theorem op_catQ : OpR X (binaryOp .Add) rCatQ := by
  intro pins s σ H x y v u Q I rx ry h
  obtain ⟨l, b, xs, zs, rfl, rfl, hH, hB, hz, q⟩ := h
  cases rx
  cases ry
  obtain ⟨z, its, n, r, hl, e⟩ := rd_lst I hH
  obtain ⟨z2, its2, n2, r2, hl2, e2⟩ := rd_lst I hB
  refine PySem.P.add_list e e2 ?_ (by rw [List.size_toArray, List.size_toArray]; omega)
  have ea : its.toArray ++ its2.toArray = (its ++ its2).toArray := by simp
  rw [ea]
  exact ⟨.ref _, _, I.lnew (t' := s.toks) (r.append r2) (by rw [List.length_append]; omega), rfl, q _ I.fresh⟩
theorem RpL.reps {F : Hp} {xs : List T} {vs : List V} {c : Own} (hc : c = .cold ∨ c.isView = true) (h : RpL K F H c xs vs []) : ∀ n : Nat, RpL K F H c (List.replicate n xs).flatten (List.replicate n vs).flatten []
  | 0 => by simp only [List.replicate_zero, List.flatten_nil, RpL]
  | n + 1 => by
    simp only [List.replicate_succ, List.flatten_cons]
    exact RpL.append h (RpL.reps hc h n)
end
end Ev
namespace Ev
open PySem PySem.Spec PyProof.Rows L2
section
variable {P : Program} {w : World} {K : PySem.W.Frag} {mg : Str → Option Value} {base : Heap} {k : Nat} {N : List Str} {sc : Scope} {U : BF → Bool} {G : List Nat → Option T} {C : List Nat → List T → Option (T × Own)}
variable {X : Cx} {H0 F0 H H' : Hp} {ρ ρ' : Env} {σ : L2.St} {τ : List Gp} {t u y : T} {o q : Own} {va vb v : V} {r : R} {Q : VK}
def rStr : R2 := fun x y H Q => ∃ i j, x = .str i ∧ y = .str j ∧ i.length + j.length ≤ sizeLine ∧ Q (.str (i ++ j)) H
end
section
variable {X : Cx}
theorem foldl_cat (a : Array Nat) (xs : List Nat) : ∀ (n : Nat) (acc : List Nat), (List.replicate n xs.toArray).foldl (· ++ ·) acc.toArray = (acc ++ (List.replicate n xs).flatten).toArray
  | 0, acc => by simp
  | n + 1, acc => by
    rw [List.replicate_succ, List.foldl_cons, List.replicate_succ, List.flatten_cons, ← List.append_assoc, ← foldl_cat a xs n (acc ++ xs)]
    congr 1
    simp
/-- a text so many times -/
def rRepS : R2 := fun x y H Q => ∃ l k, x = .str (S8 l) ∧ y = .int k ∧ k.natAbs < 2 ^ 62 ∧ l.length * k.toNat ≤ 8388608 ∧ Q (.str (S8 (List.replicate k.toNat l).flatten)) H
theorem op_repS : OpR X (binaryOp .Mult) rRepS := by
  intro pins s σ H x y v u Q I rx ry h
  obtain ⟨l, k, rfl, rfl, hk, hl, q⟩ := h
  obtain ⟨t, rfl⟩ := rx
  obtain ⟨t', rfl⟩ := ry
  have hlen : (S8 l).length = l.length := by simp [S8, Str.length]
  refine PySem.P.mul_str ?_ ?_ ?_ ?_
  · have h1 : ¬ k < -(2 ^ 63 : Int) := by omega
    have h2 : ¬ k ≥ 2 ^ 63 := by omega
    rw [decide_eq_false h1, decide_eq_false h2]; rfl
  · intro h1 _ h3
    have h4 : (0 : Int) < k := by omega
    have h5 : ((2 ^ 63 - 1 : Int) / k) * k ≤ 2 ^ 63 - 1 := Int.ediv_mul_le _ (by omega)
    have h6 : ((S8 l).length : Int) ≤ (2 ^ 63 - 1) / k := by
      rw [Int.le_ediv_iff_mul_le h4, hlen]
      have : (l.length : Int) * k = ((l.length * k.toNat : Nat) : Int) := by
        rw [Int.natCast_mul, Int.toNat_of_nonneg (by omega)]
      omega
    omega
  · intro _ _
    rw [hlen]
    unfold PySem.Builtin.Str.tooLong
    rw [decide_eq_false]
    have : (8388608 : Nat) ≤ sizeLine := by decide
    omega
  · by_cases h1 : k < 1
    · rw [if_pos h1]
      have : k.toNat = 0 := by omega
      rw [this] at q
      refine ⟨by decide, .str (S8 []), H, I.tok _, ⟨_, rfl⟩, q⟩
    · rw [if_neg h1]
      split
      · rename_i h2
        simp only [Bool.or_eq_true, beq_iff_eq] at h2
        refine ⟨.str (S8 l), H, I, ⟨t, rfl⟩, ?_⟩
        have : (List.replicate k.toNat l).flatten = l := by
          rcases h2 with h2 | h2
          · subst h2; simp
          · rw [hlen] at h2
            have : l = [] := List.eq_nil_of_length_eq_zero h2
            subst this; simp
        rw [this] at q; exact q
      · have e : (⟨(List.replicate k.toNat (S8 l).cps).foldl (· ++ ·) #[]⟩ : Str) = S8 (List.replicate k.toNat l).flatten := by
          have := foldl_cat #[] l k.toNat []
          simp only [List.nil_append] at this
          show (⟨(List.replicate k.toNat l.toArray).foldl (· ++ ·) #[]⟩ : Str) = ⟨_⟩
          rw [← this]
        rw [e]
        refine ⟨?_, .str (S8 (List.replicate k.toNat l).flatten), H, I.tok _, ⟨_, rfl⟩, q⟩
        have h9 : (S8 (List.replicate k.toNat l).flatten).length = l.length * k.toNat := by simp [S8, Str.length, Nat.mul_comm]
        have : (8388608 : Nat) ≤ sizeLine := by decide
        omega
end
section
variable {P : Program} {w : World} {K : PySem.W.Frag} {mg : Str → Option Value} {base : Heap} {k : Nat} {N : List Str} {sc : Scope} {U : BF → Bool} {G : List Nat → Option T} {C : List Nat → List T → Option (T × Own)}
variable {X : Cx} {H0 F0 H H' : Hp} {ρ ρ' : Env} {σ : L2.St} {τ : List Gp} {t u y : T} {o q : Own} {va vb v : V} {r : R} {Q : VK}
/-- a list times an int, of any list that stands there -/
def rRepQ : R2 := fun x y H Q => ∃ l k xs, x = .ref l ∧ y = .int k ∧ Rd H l (.lst xs) ∧ -(2 ^ 63) ≤ k ∧ k < 2 ^ 63 ∧ xs.length * k.toNat ≤ sizeLine ∧
  ∀ p, H p = none → Q (.ref p) (upd H p (.lst (List.replicate k.toNat xs).flatten))
theorem op_repQ {X : Cx} : OpR X (binaryOp .Mult) rRepQ := by
  intro pins s σ H x y v u Q I rx ry h
  obtain ⟨l, k, xs, rfl, rfl, hH, h1, h2, hz, q⟩ := h
  cases rx
  obtain ⟨t, rfl⟩ := ry
  obtain ⟨z, its, n, r, e⟩ := hH.ok I.hok
  have hl := r.length
  have hlen : its.toArray.size * k.toNat ≤ sizeLine := by rw [List.size_toArray, ← hl]; exact hz
  have hcap : ¬ its.toArray.size * k.toNat > (2 ^ 63 - 1) / 8 := by
    have : (sizeLine : Nat) ≤ (2 ^ 63 - 1) / 8 := by decide
    omega
  have hfit : ¬ (!Builtin.List.listFitsIndex k) = true := by
    rw [fitsIndex_both h1 h2]
    exact Bool.false_ne_true
  have hlong : ¬ Builtin.List.listTooLong (its.toArray.size * k.toNat) = true := by
    rw [notLongL hlen]
    exact Bool.false_ne_true
  have hnew : List.foldl (fun x1 x2 => x1 ++ x2) #[] (List.replicate (if its.toArray.isEmpty = true then 0 else k.toNat) its.toArray) = (List.replicate k.toNat its).flatten.toArray := by
    have f0 : ∀ m : Nat, List.foldl (fun x1 x2 => x1 ++ x2) #[] (List.replicate m its.toArray) = (List.replicate m its).flatten.toArray := fun m => by
      have := foldl_rep its m []
      rw [List.nil_append] at this
      exact this
    rw [f0]
    cases its with
    | nil => simp
    | cons a r' => rw [if_neg (by simp)]
  refine wpAny_binaryOp_repeat_ref (T := "list") (U := "int") (by decide) ⟨_, e, rfl⟩ (fun s' => typeIs_int s' k t) noFill_list_mul F.fills_int_mul F.slot_int_rmul repeat_list F.slot_int_index.lookup
    (call_meets F.slot_int_rmul (typeIs_int s k t) F.entry_int_rmul (F.args_int_rmul_2 _ _) (int___rmul___int_list k t l its.toArray n)
      ⟨e, rfl, ⟨_, e, rfl⟩, call_meets F.slot_list_mul ⟨_, e, rfl⟩ F.entry_list_mul (F.args_list_mul_2 _ _) (AutoListH.list___mul___list_int_3 l its.toArray n k t hfit hcap hlong) ⟨e, ?_⟩⟩)
  rw [hnew]
  exact ⟨.ref _, _, I.lnew (t' := s.toks) (r.rep k.toNat) (by rw [PyProof.Rows.lm_len_rep_flat, Nat.mul_comm]; exact hz), rfl, q _ I.fresh⟩
def rB (K : PySem.W.Frag) : BO → R2
  | .add => fun x y H Q => (rI0 fun i j => .int (i + j)) x y H Q ∨ rStr x y H Q ∨ rCatQ x y H Q ∨ rCatT K x y H Q
  | .sub => rI0 fun i j => .int (i - j)
  | .mul => fun x y H Q => (rI (fun i j => CMulW i j ∨ CMul i j) fun i j => .int (i * j)) x y H Q ∨ rRepQ x y H Q ∨ rRepS x y H Q
  | .fdiv => fun x y H Q => (rI CDivW fun i j => .int (i / j)) x y H Q ∨ (rI CDivN fun i j => .int (i.fdiv j)) x y H Q
  | .mod => fun x y H Q => (rI (fun _ j => 0 < j) fun i j => .int (i % j)) x y H Q ∨ (rI (fun _ j => j ≠ 0) fun i j => .int (i.fmod j)) x y H Q
  | .pow => rI CPow fun i j => .int (i ^ j.toNat)
theorem opB (op : BO) : OpR X (binaryOp op.op) (rB X.K op) := by
  cases op with
  | add => exact op_add.or (op_add_str.or (op_catQ.or op_catT))
  | sub => exact op_sub
  | mul => exact (opI fun _ _ _ _ _ _ _ hc q => mul_int q (hc.elim CMulW.ok CMul.ok)).or (op_repQ.or op_repS)
  | fdiv => exact op_fdivW.or op_fdivN
  | mod => exact op_mod.or op_modN
  | pow => exact op_pow
/-- an answer that may share the items of what it was made of: either nothing is shared, or both are shared from now on -/
theorem share2 {g : T → T → Option T} (h : I K H0 F0 ρ σ (g1 q u vb :: g1 o t va :: τ) H) (he : shareR2 g t o u q ρ = some r) (la : ∀ i, o = .view i → σ[i]? = some (some va)) (lb : ∀ i, q = .view i → σ[i]? = some (some vb)) :
    (∃ y, g t u = some y ∧ r = ⟨y, .full, ρ⟩ ∧ (y.nl = true ∨ ∃ ys, y = .lst ys ∧ nlL ys = true)) ∨
    (∃ t' u', (∃ y, g t u = some y ∧ y.nl = false ∧ ∀ ys, y = .lst ys → nlL ys = false) ∧ g t' u' = some r.t ∧ ((∃ zs, r.t = .lst zs ∧ r.o = .shal) ∨ ∃ zs, r.t = .tup zs ∧ r.o = .cold) ∧ I K H0 F0 r.ρ σ (g1 .cold u' vb :: g1 .cold t' va :: τ) H) := by
  unfold shareR2 at he
  obtain ⟨y, ey, he⟩ := obind he
  have two : ∀ {x x' : T × Env}, reT t o ρ = some x → reT u q x.2 = some x' → I K H0 F0 x'.2 σ (g1 .cold x'.1 vb :: g1 .cold x.1 va :: τ) H := fun e1 e2 => by
    have h1 := h.swap.re e1 la
    exact h1.swap.re e2 lb
  split at he
  · rename_i n
    cases he
    exact .inl ⟨y, ey, rfl, .inl n⟩
  · rename_i n0
    cases y with
    | lst ys =>
      dsimp only at he
      split at he
      · rename_i n
        cases he
        exact .inl ⟨_, ey, rfl, .inr ⟨ys, rfl, n⟩⟩
      · rename_i n
        obtain ⟨x, e1, he⟩ := obind he
        obtain ⟨x', e2, he⟩ := obind he
        obtain ⟨z, e3, he⟩ := obind he
        cases z with
        | lst zs =>
          cases he
          exact .inr ⟨x.1, x'.1, ⟨_, ey, rfl, fun ys' e => by cases e; simpa using n⟩, e3, .inl ⟨zs, rfl, rfl⟩, two e1 e2⟩
        | _ => cases he
    | _ =>
      dsimp only at he
      obtain ⟨x, e1, he⟩ := obind he
      obtain ⟨x', e2, he⟩ := obind he
      obtain ⟨z, e3, he⟩ := obind he
      cases z with
      | tup zs =>
        cases he
        exact .inr ⟨x.1, x'.1, ⟨_, ey, by simpa using n0, fun ys' e => by cases e⟩, e3, .inr ⟨zs, rfl, rfl⟩, two e1 e2⟩
      | _ => cases he
theorem share1 {g : T → Option T} (h : I K H0 F0 ρ σ (g1 o t va :: τ) H) (he : shareR1 g t o ρ = some r) (la : ∀ i, o = .view i → σ[i]? = some (some va)) :
    (∃ y, g t = some y ∧ r = ⟨y, .full, ρ⟩ ∧ (y.nl = true ∨ ∃ ys, y = .lst ys ∧ nlL ys = true)) ∨
    (∃ t', g t' = some r.t ∧ ((∃ zs, r.t = .lst zs ∧ r.o = .shal) ∨ ∃ zs, r.t = .tup zs ∧ r.o = .cold) ∧ I K H0 F0 r.ρ σ (g1 .cold t' va :: τ) H) := by
  unfold shareR1 at he
  obtain ⟨y, ey, he⟩ := obind he
  split at he
  · rename_i n
    cases he
    exact .inl ⟨y, ey, rfl, .inl n⟩
  · cases y with
    | lst ys =>
      dsimp only at he
      split at he
      · rename_i n
        cases he
        exact .inl ⟨_, ey, rfl, .inr ⟨ys, rfl, n⟩⟩
      · obtain ⟨x, e1, he⟩ := obind he
        obtain ⟨z, e3, he⟩ := obind he
        cases z with
        | lst zs =>
          cases he
          exact .inr ⟨x.1, e3, .inl ⟨zs, rfl, rfl⟩, h.re e1 la⟩
        | _ => cases he
    | _ =>
      dsimp only at he
      obtain ⟨x, e1, he⟩ := obind he
      obtain ⟨z, e3, he⟩ := obind he
      cases z with
      | tup zs =>
        cases he
        exact .inr ⟨x.1, e3, .inr ⟨zs, rfl, rfl⟩, h.re e1 la⟩
      | _ => cases he
/-- a new list under a claim of its items -/
theorem I.fin {p : Addr} {ts : List T} {vs : List V} {c : Own} (h : I K H0 F0 ρ σ (⟨c, ts, vs⟩ :: τ) H) (hc : (c = .full ∧ o = .full) ∨ (c = .cold ∧ o = .shal)) (hp : H p = none) : I K H0 F0 ρ σ (g1 o (.lst ts) (.ref p) :: τ) (upd H p (.lst vs)) := by
  rcases hc with ⟨rfl, rfl⟩ | ⟨rfl, rfl⟩
  · exact h.newLst (.inl rfl) hp
  · exact h.newLst (.inr rfl) hp
theorem I.finT {p : Addr} {ts : List T} {vs : List V} {c : Own} (h : I K H0 F0 ρ σ (⟨c, ts, vs⟩ :: τ) H) (hc : (c = .full ∧ o = .full) ∨ (c = .cold ∧ o = .cold)) (hp : H p = none) : I K H0 F0 ρ σ (g1 o (.tup ts) (.ref p) :: τ) (upd H p (.tup vs)) := by
  rcases hc with ⟨rfl, rfl⟩ | ⟨rfl, rfl⟩
  · exact h.newTup (.inl rfl) hp
  · exact h.newTup (.inr rfl) hp
theorem ascii_append {x y : List Nat} (hx : Ascii x) (hy : Ascii y) (h : x.length + y.length ≤ sizeLine) : Ascii (x ++ y) :=
  ⟨by rw [List.length_append]; exact h, fun c m => (List.mem_append.mp m).elim (hx.2 c) (hy.2 c)⟩
theorem ascii_rep {x : List Nat} {n : Nat} (hx : Ascii x) (h : x.length * n ≤ 8388608) : Ascii (List.replicate n x).flatten := by
  refine ⟨?_, fun c m => ?_⟩
  · have e : (List.replicate n x).flatten.length = x.length * n := by simp [Nat.mul_comm]
    have : (8388608 : Nat) ≤ sizeLine := by decide
    omega
  · obtain ⟨l, m1, m2⟩ := List.mem_flatten.mp m
    rw [(List.mem_replicate.mp m1).2] at m2
    exact hx.2 c m2
theorem strApp (x y : List Nat) : (⟨x.toArray⟩ : Str) ++ ⟨y.toArray⟩ = ⟨(x ++ y).toArray⟩ := by
  show (⟨x.toArray ++ y.toArray⟩ : Str) = _
  simp
theorem RpL.allFull {F : Hp} {xs : List T} {vs : List V} {fp : List Addr} {o o' : Own} (n : nlL xs = true) (h : RpL K F H o xs vs fp) : RpL K F H o' xs vs [] := (h.nl n).2 _ _
/-- two groups on top whose items are without lists: as one, one's own -/
theorem I.joinNl {xs ys : List T} {ws zs : List V} {o' q' : Own} (h : I K H0 F0 ρ σ (⟨o', xs, ws⟩ :: ⟨q', ys, zs⟩ :: τ) H) (n : nlL (xs ++ ys) = true) : I K H0 F0 ρ σ (⟨.full, xs ++ ys, ws ++ zs⟩ :: τ) H := by
  rw [nlL_append, Bool.and_eq_true] at n
  exact ((I.nlG (o' := .full) h n.1).swap.nlG (o' := .full) n.2).swap.join
theorem nlL_flat {xs : List T} (h : nlL xs = true) : ∀ n : Nat, nlL (List.replicate n xs).flatten = true
  | 0 => by simp [nlL]
  | n + 1 => by simp [List.replicate_succ, nlL_append, h, nlL_flat h n]
theorem nlL_of_flat {xs : List T} : ∀ n : Nat, nlL (List.replicate (n + 1) xs).flatten = true → nlL xs = true
  | n, h => by
    simp only [List.replicate_succ, List.flatten_cons, nlL_append, Bool.and_eq_true] at h
    exact h.1
/-- a group's items again and again -/
theorem I.repG {xs : List T} {ws : List V} {c : Own} (hc : c = .cold ∨ nlL xs = true ) (n : Nat) (h : I K H0 F0 ρ σ (⟨c, xs, ws⟩ :: τ) H) : I K H0 F0 ρ σ (⟨c, (List.replicate n xs).flatten, (List.replicate n ws).flatten⟩ :: τ) H :=
  h.map fun F fp s q => by
    refine ⟨[], ?_, List.nil_sublist _⟩
    rcases hc with rfl | hc
    · have e := RpL.none_of (.inl rfl) q
      subst e
      exact RpL.reps (.inl rfl) q n
    · have q' : RpL K F H .cold xs ws [] := RpL.allFull hc q
      exact RpL.allFull (nlL_flat hc n) (RpL.reps (.inl rfl) q' n)
theorem catT_ok {xs ys : List T} {ws zs : List V} {a b : Addr} (hx : xs ≠ [] ∧ ys ≠ []) (hl : xs.length + ys.length ≤ sizeLine) (l1 : xs.length = ws.length) (l2 : ys.length = zs.length) (ra : SqT K H a ws) (rb : SqT K H b zs)
    (q : ∀ p, H p = none → Q (.ref p) (upd H p (.tup (ws ++ zs)))) : rCatT K (.ref a) (.ref b) H Q := by
  have nw : ws ≠ [] := fun e => hx.1 (by rw [e] at l1; simpa using l1)
  have nz : zs ≠ [] := fun e => hx.2 (by rw [e] at l2; simpa using l2)
  exact ⟨a, b, ws, zs, rfl, rfl, ra, rb, nw, by omega, fun e => absurd e nz, fun _ => q⟩
theorem mulNl {o : Own} (hr : repOk .mul t o = true) (e : binV .mul t u = some y) : y.nl = true ∨ ∃ ys, y = .lst ys ∧ nlL ys = true := by
  cases t <;> cases u <;> simp only [binV] at e <;> first | (cases e; done) | (split at e <;> cases e)
  · exact .inl rfl
  · exact .inl rfl
  · refine .inr ⟨_, rfl, nlL_flat ?_ _⟩
    simpa only [repOk] using hr
theorem bin_ok0 {op : BO} (h : I K H0 F0 ρ σ (g1 q u vb :: g1 o t va :: τ) H) (hr : repOk op t o = true) (he : shareR2 (binV op) t o u q ρ = some r) (la : ∀ i, o = .view i → σ[i]? = some (some va)) (lb : ∀ i, q = .view i → σ[i]? = some (some vb))
    (hq : ∀ v H', I K H0 F0 r.ρ σ (g1 r.o r.t v :: τ) H' → r.o.isView = false → Q v H') : rB K op va vb H Q := by
  have hs := share2 h he la lb
  -- plain answers
  have plainI : ∀ i : Int, r = ⟨.int i, .full, ρ⟩ → Q (.int i) H := fun i e => by subst e; exact hq _ _ (h.drop.drop.int i) rfl
  rcases hs with ⟨y, ey, er, hn⟩ | ⟨t', u', ⟨y0, ey0, n0, n1⟩, ey, hz, h'⟩
  · unfold binV at ey
    split at ey
    · cases ey
      rw [h.isInt, h.drop.isInt]
      exact .inl ⟨_, _, rfl, rfl, plainI _ er⟩
    · split at ey
      · rename_i hl
        cases ey
        obtain ⟨rfl, a1⟩ := h.isStr
        obtain ⟨rfl, a2⟩ := h.drop.isStr
        refine .inr (.inl ⟨_, _, rfl, rfl, by simpa [Str.length] using hl, ?_⟩)
        rw [strApp]
        subst er
        exact hq _ _ (h.drop.drop.str (ascii_append a2 a1 hl)) rfl
      · cases ey
    · split at ey
      · rename_i xs ys hl
        cases ey
        rcases hn with hn | ⟨zs, ez, hn⟩
        · simp [T.nl] at hn
        · cases ez
          obtain ⟨b, zs, eb, rb, lb', h1, _⟩ := h.kidsL
          obtain ⟨a, ws, ea, ra, la', h2, _⟩ := h1.swap.kidsL
          refine .inr (.inr (.inl ⟨a, b, ws, zs, ea, eb, ra, rb, by omega, fun p hp => ?_⟩))
          subst er
          exact hq _ _ ((h2.joinNl hn).fin (.inl ⟨rfl, rfl⟩) hp) rfl
      · cases ey
    · split at ey
      · rename_i xs ys hl
        cases ey
        rcases hn with hn | ⟨zs, ez, hn⟩
        · obtain ⟨b, zs, eb, rb, lb', h1⟩ := h.kidsT
          obtain ⟨a, ws, ea, ra, la', h2⟩ := h1.swap.kidsT
          subst ea eb er
          exact .inr (.inr (.inr (catT_ok hl.2 hl.1 la' lb' ra rb fun p hp => hq _ _ ((h2.joinNl (by simpa [T.nl] using hn)).finT (.inl ⟨rfl, rfl⟩) hp) rfl)))
        · cases ez
      · cases ey
    · cases ey
      rw [h.isInt, h.drop.isInt]
      exact ⟨_, _, rfl, rfl, plainI _ er⟩
    · split at ey
      · rename_i hl
        cases ey
        rw [h.isInt, h.drop.isInt]
        refine .inl ⟨_, _, rfl, rfl, ?_, plainI _ er⟩
        rcases hl with hl | hl | hl
        · exact .inl hl
        · exact .inr (.inl (by omega))
        · exact .inr (.inr (by omega))
      · cases ey
    · split at ey
      · rename_i xs kk hl
        cases ey
        rcases hn with hn | ⟨zs, ez, hn⟩
        · simp [T.nl] at hn
        · cases ez
          rw [h.isInt]
          obtain ⟨a, ws, ea, ra, la', h2, own⟩ := h.drop.kidsL
          refine .inr (.inl ⟨a, kk, ws, ea, rfl, ra, by omega, by omega, by rw [← la']; exact hl.2, fun p hp => ?_⟩)
          subst er
          have hx : nlL xs = true := by simpa only [repOk] using hr
          exact hq _ _ (((I.nlG (o' := .full) h2 hx).repG (.inr hx) _).fin (.inl ⟨rfl, rfl⟩) hp) rfl
      · cases ey
    · split at ey
      · rename_i xs kk hl
        cases ey
        obtain ⟨rfl, a1⟩ := h.drop.isStr
        rw [h.isInt]
        refine .inr (.inr ⟨xs, kk, rfl, rfl, hl.1, hl.2, ?_⟩)
        subst er
        exact hq _ _ (h.drop.drop.str (ascii_rep a1 hl.2)) rfl
      · cases ey
    · split at ey
      · rename_i hl
        cases ey
        rw [h.isInt, h.drop.isInt]
        exact .inl ⟨_, _, rfl, rfl, hl, plainI _ er⟩
      · split at ey
        · rename_i hl
          cases ey
          rw [h.isInt, h.drop.isInt]
          exact .inr ⟨_, _, rfl, rfl, ⟨by omega, hl.2⟩, plainI _ er⟩
        · cases ey
    · split at ey
      · rename_i hl
        cases ey
        rw [h.isInt, h.drop.isInt]
        exact .inl ⟨_, _, rfl, rfl, hl, plainI _ er⟩
      · split at ey
        · rename_i hl
          cases ey
          rw [h.isInt, h.drop.isInt]
          exact .inr ⟨_, _, rfl, rfl, by omega, plainI _ er⟩
        · cases ey
    · split at ey
      · rename_i hl
        cases ey
        rw [h.isInt, h.drop.isInt]
        exact ⟨_, _, rfl, rfl, hl, plainI _ er⟩
      · cases ey
    · cases ey
  · obtain ⟨t0, o0, ρ0⟩ := r
    rcases hz with ⟨zs, e1, e2⟩ | ⟨zs, e1, e2⟩
    · cases e1; cases e2
      unfold binV at ey
      split at ey
      · cases ey
      · split at ey <;> cases ey
      · split at ey
        · rename_i xs ys hl
          cases ey
          obtain ⟨a, b, ws, zs, ea, eb, ra, rb, l1, l2, h2⟩ := h'.kids2L rfl
          exact .inr (.inr (.inl ⟨a, b, ws, zs, ea, eb, ra, rb, by omega, fun p hp => hq _ _ (h2.fin (.inr ⟨rfl, rfl⟩) hp) rfl⟩))
        · cases ey
      · split at ey <;> cases ey
      · cases ey
      · split at ey <;> cases ey
      · split at ey
        · rename_i xs kk hl
          cases ey
          exfalso
          rcases mulNl hr ey0 with z | ⟨ys', rfl, z⟩
          · rw [z] at n0; cases n0
          · rw [n1 _ rfl] at z; cases z
        · cases ey
      all_goals (repeat' (split at ey)) <;> cases ey
    · cases e1; cases e2
      unfold binV at ey
      split at ey
      · cases ey
      · split at ey <;> cases ey
      · split at ey <;> cases ey
      · split at ey
        · rename_i xs ys hl
          cases ey
          obtain ⟨a, b, ws, zs, ea, eb, ra, rb, l1, l2, h2⟩ := h'.kids2T rfl
          subst ea eb
          exact .inr (.inr (.inr (catT_ok hl.2 hl.1 l1 l2 ra rb fun p hp => hq _ _ (h2.finT (.inr ⟨rfl, rfl⟩) hp) rfl)))
        · cases ey
      all_goals (repeat' (split at ey)) <;> cases ey
theorem bin_ok {op : BO} (h : I K H0 F0 ρ σ (g1 q u vb :: g1 o t va :: τ) H) (hr : repOk op t o = true) (he : binR op t o u q ρ = some r) (la : ∀ i, o = .view i → σ[i]? = some (some va)) (lb : ∀ i, q = .view i → σ[i]? = some (some vb))
    (hq : ∀ v H', I K H0 F0 r.ρ σ (g1 r.o r.t v :: τ) H' → r.o.isView = false → Q v H') : rB K op va vb H Q := by
  unfold binR at he
  split at he
  · rename_i ha
    unfold addFull at ha
    split at ha
    · obtain ⟨y, ey, rfl⟩ := omap he
      simp only [binV] at ey
      split at ey
      · rename_i hl
        cases ey
        obtain ⟨b, zs, eb, rb, lb', h1, _⟩ := h.kidsL
        obtain ⟨a, ws, ea, ra, la', h2, _⟩ := h1.swap.kidsL
        refine .inr (.inr (.inl ⟨a, b, ws, zs, ea, eb, ra, rb, by omega, fun p hp => ?_⟩))
        exact hq _ _ (I.newLst (o := .full) h2.join (.inl rfl) hp) rfl
      · cases ey
    · cases ha
  · exact bin_ok0 h hr he la lb hq
end
end Ev
namespace Ev
open PySem PySem.Spec PyProof.Rows L2
mutual
def toPD : T → PyData
  | .non => .none
  | .bl b => .bool b
  | .int i => .int i
  | .str s => .str (S8 s)
  | .tup xs => .tuple (toPDs xs)
  | .lst xs => .list (toPDs xs)
  | .dct _ _ => .none
  | .obj _ _ _ => .none
def toPDs : List T → List PyData
  | [] => []
  | x :: xs => toPD x :: toPDs xs
end
theorem S8_beq (a b : List Nat) : (S8 a == S8 b) = (a == b) := by
  by_cases e : a = b
  · subst e; simp
  · have : S8 a ≠ S8 b := fun h => e (by simpa [S8] using h)
    rw [beq_eq_false_iff_ne.mpr this, beq_eq_false_iff_ne.mpr e]
mutual
theorem eqv_toPD : ∀ {n m : Nat} {a b : T}, a.depLe n = true → b.depLe m = true → PyData.eqv (toPD a) (toPD b) = eqT a b
  | n, m, a, b, ha, hb => by
    cases a <;> cases b <;> try (simp only [toPD, PyData.eqv, eqT]; done)
    all_goals first
      | (cases n <;> simp [T.depLe] at ha; done)
      | (cases m <;> simp [T.depLe] at hb; done)
      | skip
    · simp only [toPD, PyData.eqv, eqT, S8_beq]
    · simp only [toPD, PyData.eqv, eqT]
      cases n <;> simp only [T.depLe] at ha <;> first | cases ha | skip
      cases m <;> simp only [T.depLe] at hb <;> first | cases hb | skip
      exact eqvs_toPD ha hb
    · simp only [toPD, PyData.eqv, eqT]
      cases n <;> simp only [T.depLe] at ha <;> first | cases ha | skip
      cases m <;> simp only [T.depLe] at hb <;> first | cases hb | skip
      exact eqvs_toPD ha hb
theorem eqvs_toPD : ∀ {n m : Nat} {a b : List T}, depLeL n a = true → depLeL m b = true → PyData.eqvAll (toPDs a) (toPDs b) = eqTL a b
  | _, _, [], [], _, _ => by simp [toPDs, PyData.eqvAll, eqTL]
  | _, _, [], _ :: _, _, _ => by simp [toPDs, PyData.eqvAll, eqTL]
  | _, _, _ :: _, [], _, _ => by simp [toPDs, PyData.eqvAll, eqTL]
  | n, m, x :: xs, y :: ys, ha, hb => by
    simp only [depLeL, Bool.and_eq_true] at ha hb
    simp only [toPDs, PyData.eqvAll, eqTL]
    rw [eqv_toPD ha.1 hb.1, eqvs_toPD ha.2 hb.2]
end
mutual
theorem depth_toPD : ∀ {n : Nat} {a : T}, a.depLe n = true → (toPD a).depth ≤ n
  | n, .non, _ => by simp [toPD, PyData.depth]
  | n, .bl _, _ => by simp [toPD, PyData.depth]
  | n, .int _, _ => by simp [toPD, PyData.depth]
  | n, .str _, _ => by simp [toPD, PyData.depth]
  | 0, .tup _, h => by simp [T.depLe] at h
  | 0, .lst _, h => by simp [T.depLe] at h
  | n + 1, .tup xs, h => by
    simp only [toPD, PyData.depth]
    exact Nat.succ_le_succ (depths_toPD (by simpa [T.depLe] using h))
  | n + 1, .lst xs, h => by
    simp only [toPD, PyData.depth]
    exact Nat.succ_le_succ (depths_toPD (by simpa [T.depLe] using h))
  | n, .dct _ _, h => by simp [T.depLe] at h
  | n, .obj _ _ _, h => by simp [T.depLe] at h
theorem depths_toPD : ∀ {n : Nat} {a : List T}, depLeL n a = true → PyData.depthAll (toPDs a) ≤ n
  | n, [], _ => by simp [toPDs, PyData.depthAll]
  | n, x :: xs, h => by
    simp only [depLeL, Bool.and_eq_true] at h
    simp only [toPDs, PyData.depthAll]
    exact Nat.max_le.mpr ⟨depth_toPD h.1, depths_toPD h.2⟩
end
section
variable {K : PySem.W.Frag} {F H : Hp}
theorem strOk_ascii {s : List Nat} (h : Ascii s) : PyData.strOk (S8 s) = true := by
  simp only [PyData.strOk, S8, Array.all_eq_true]
  intro i hi
  have : s.toArray[i] ∈ s := by simp
  simpa using Nat.lt_trans (h.2 _ this) (by decide)
mutual
theorem dp_of (sm : Same F H) : ∀ {n : Nat} {t : T} {o : Own} {v : V} {fp : List Addr}, t.depLe n = true → Rp K F H o t v fp → Dp K H v (toPD t) ∧ (toPD t).canLay0 = true
  | _, .non, _, _, _, _, h => by simp only [Rp] at h; rw [h.1]; exact ⟨.non, by simp [toPD, PyData.canLay0]⟩
  | _, .bl _, _, _, _, _, h => by simp only [Rp] at h; rw [h.1]; exact ⟨.bl _, by simp [toPD, PyData.canLay0]⟩
  | _, .int _, _, _, _, _, h => by simp only [Rp] at h; rw [h.1]; exact ⟨.int _, by simp [toPD, PyData.canLay0]⟩
  | _, .str s, _, _, _, _, h => by simp only [Rp] at h; rw [h.1]; exact ⟨.str _, by simp only [toPD, PyData.canLay0]; exact strOk_ascii h.2.2⟩
  | 0, .tup _, _, _, _, h, _ => by simp [T.depLe] at h
  | 0, .lst _, _, _, _, h, _ => by simp [T.depLe] at h
  | n + 1, .tup xs, _, _, _, d, h => by
    simp only [Rp] at h
    obtain ⟨a, vs, rfl, q, r⟩ := h
    have z := dps_of sm (n := n) (by simpa [T.depLe] using d) r
    exact ⟨.tup q z.1, by simp only [toPD, PyData.canLay0]; exact z.2⟩
  | n + 1, .lst xs, _, _, _, d, h => by
    simp only [Rp] at h
    obtain ⟨a, vs, hd, fp', rfl, q, r, _⟩ := h
    have z := dps_of sm (n := n) (by simpa [T.depLe] using d) r
    exact ⟨.lst (.inl (q.view sm)) z.1, by simp only [toPD, PyData.canLay0]; exact z.2⟩
  | _, .dct _ _, _, _, _, h, _ => by simp [T.depLe] at h
  | _, .obj _ _ _, _, _, _, h, _ => by simp [T.depLe] at h
theorem dps_of (sm : Same F H) : ∀ {n : Nat} {ts : List T} {o : Own} {vs : List V} {fp : List Addr}, depLeL n ts = true → RpL K F H o ts vs fp → DpAll K H vs (toPDs ts) ∧ PyData.canLayAll0 (toPDs ts) = true
  | _, [], _, [], _, _, _ => ⟨.nil, by simp [toPDs, PyData.canLayAll0]⟩
  | n, x :: xs, o, v :: vs, fp, d, h => by
    simp only [RpL] at h
    obtain ⟨f1, f2, h1, h2, _⟩ := h
    simp only [depLeL, Bool.and_eq_true] at d
    have z1 := dp_of sm d.1 h1
    have z2 := dps_of sm d.2 h2
    exact ⟨.cons z1.1 z2.1, by simp only [toPDs, PyData.canLayAll0, Bool.and_eq_true]; exact ⟨z1.2, z2.2⟩⟩
  | _, [], _, _ :: _, _, _, h => by simp [RpL] at h
  | _, _ :: _, _, [], _, _, h => by simp [RpL] at h
end
theorem flat_of : ∀ {t : T} {o : Own} {v : V} {fp : List Addr}, flatT t = true → Rp K F H o t v fp → flatV v = true := by
  intro t o v fp f h
  cases t <;> simp [flatT] at f <;> simp only [Rp] at h <;> rw [h.1] <;> rfl
theorem flats_of : ∀ {ts : List T} {o : Own} {vs : List V} {fp : List Addr}, ts.all flatT = true → RpL K F H o ts vs fp → vs.all flatV = true
  | [], _, [], _, _, _ => rfl
  | x :: xs, o, v :: vs, fp, f, h => by
    simp only [RpL] at h
    obtain ⟨f1, f2, h1, h2, _⟩ := h
    simp only [List.all_cons, Bool.and_eq_true] at f ⊢
    exact ⟨flat_of f.1 h1, flats_of f.2 h2⟩
  | [], _, _ :: _, _, _, h => by simp [RpL] at h
  | _ :: _, _, [], _, _, h => by simp [RpL] at h
theorem eqV_of {F' : Hp} {t u : T} {o o' : Own} {v w : V} {fp fq : List Addr} (ft : flatT t = true) (fu : flatT u = true) (ht : Rp K F H o t v fp) (hu : Rp K F' H o' u w fq) : eqV v w = eqT t u := by
  cases t <;> simp only [flatT] at ft <;> (try cases ft) <;> cases u <;> simp only [flatT] at fu <;> (try cases fu) <;> simp only [Rp] at ht hu <;> rw [ht.1, hu.1] <;> simp only [eqV, eqT]
  exact S8_beq _ _
theorem inV_of {F' : Hp} {t : T} {o o' : Own} {v : V} {fp : List Addr} (ft : flatT t = true) (ht : Rp K F H o t v fp) : ∀ {ts : List T} {vs : List V} {fq : List Addr}, ts.all flatT = true → RpL K F' H o' ts vs fq → inV v vs = memT t ts
  | [], [], _, _, _ => rfl
  | x :: xs, w :: vs, fq, f, h => by
    simp only [RpL] at h
    obtain ⟨f1, f2, h1, h2, _⟩ := h
    simp only [List.all_cons, Bool.and_eq_true] at f
    have z := inV_of ft ht f.2 h2
    simp only [inV, memT, List.any_cons] at z ⊢
    rw [eqV_of f.1 ft h1 ht, z]
  | [], _ :: _, _, _, h => by simp [RpL] at h
  | _ :: _, [], _, _, h => by simp [RpL] at h
end
section
variable {K : PySem.W.Frag} {X : Cx} {H0 F0 H : Hp} {ρ : Env} {σ : L2.St} {τ : List Gp} {t u : T} {o q : Own} {va vb : V} {Q : VK} {b : Bool}
def rLtS : R2 := fun x y H Q => ∃ i j, x = .str i ∧ y = .str j ∧ Q (.bl (decide (i.cps.toList < j.cps.toList))) H
def rIsN : R2 := fun x y H Q => y = .non ∧ Q (.bl (decide (x = .non))) H
def rNotN : R2 := fun x y H Q => y = .non ∧ Q (.bl (!decide (x = .non))) H
def rInS : R2 := fun x y H Q => ∃ (c : Nat) (z : Str), x = .str ⟨#[c]⟩ ∧ y = .str z ∧ Q (.bl (decide (c ∈ z.cps.toList))) H
def rNinS : R2 := fun x y H Q => ∃ (c : Nat) (z : Str), x = .str ⟨#[c]⟩ ∧ y = .str z ∧ Q (.bl (!decide (c ∈ z.cps.toList))) H
def rC (K : PySem.W.Frag) : CO → R2
  | .eq => rEqD K
  | .ne => rNeD K
  | .lt => fun x y H Q => (rI0 fun i j => .bl (decide (i < j))) x y H Q ∨ rLtS x y H Q
  | .le => rI0 fun i j => .bl (decide (i ≤ j))
  | .gt => rI0 fun i j => .bl (decide (j < i))
  | .ge => rI0 fun i j => .bl (decide (j ≤ i))
  | .is => rIsN
  | .isn => rNotN
  | .mem => fun x y H Q => rIn K false x y H Q ∨ rInS x y H Q
  | .nmem => fun x y H Q => rIn K true x y H Q ∨ rNinS x y H Q
theorem opC (hu : X.A.units + 64 < cLine) (op : CO) : OpR X (compareOp op.op) (rC X.K op) := by
  cases op with
  | eq => exact op_eqD hu
  | ne => exact op_neD hu
  | lt => exact op_lt.or op_lt_str
  | le => exact op_le
  | gt => exact op_gt
  | ge => exact op_ge
  | is => exact op_isN
  | isn => exact op_notN
  | mem => exact op_in_seq.or op_in_sign
  | nmem => exact op_notIn_seq.or op_notIn_sign
theorem memV_ok (h : I K H0 F0 ρ σ (g1 q u vb :: g1 o t va :: τ) H) (e : memV t u = some b) :
    (∃ p xs, vb = .ref p ∧ (SqL K H p xs ∨ SqT K H p xs) ∧ flatV va = true ∧ xs.all flatV = true ∧ inV va xs = b) ∨ ∃ (c : Nat) (z : Str), va = .str ⟨#[c]⟩ ∧ vb = .str z ∧ decide (c ∈ z.cps.toList) = b := by
  obtain ⟨F, fp, s, r, _⟩ := h.top
  have r := RpL.one.mp r
  obtain ⟨F', fp', s', r', _⟩ := h.drop.top
  have r' := RpL.one.mp r'
  unfold memV at e
  cases u with
  | lst ys =>
    dsimp only at e
    split at e
    · rename_i f
      simp only [Bool.and_eq_true] at f
      cases e
      simp only [Rp] at r
      obtain ⟨a, vs, hd, fp', rfl, q', rr, _⟩ := r
      exact .inl ⟨a, vs, rfl, .inl (.inl (q'.view s)), flat_of f.1 r', flats_of f.2 rr, inV_of f.1 r' f.2 rr⟩
    · cases e
  | tup ys =>
    dsimp only at e
    split at e
    · rename_i f
      simp only [Bool.and_eq_true] at f
      cases e
      simp only [Rp] at r
      obtain ⟨a, vs, rfl, q', rr⟩ := r
      exact .inl ⟨a, vs, rfl, .inr q', flat_of f.1 r', flats_of f.2 rr, inV_of f.1 r' f.2 rr⟩
    · cases e
  | str ys =>
    dsimp only at e
    split at e
    · cases e
      simp only [Rp] at r r'
      exact .inr ⟨_, _, r'.1, r.1, by simp⟩
    · cases e
  | _ => cases e
theorem eq_ok (h : I K H0 F0 ρ σ (g1 q u vb :: g1 o t va :: τ) H) (d : (T.depLe 64 t && T.depLe 64 u) = true) : ∃ d e, Dp K H va d ∧ Dp K H vb e ∧ SeqAt.shaped d = true ∧ SeqAt.shaped e = true ∧ PyData.eqv d e = eqT t u := by
  obtain ⟨F, fp, s, r, _⟩ := h.top
  have r := RpL.one.mp r
  obtain ⟨F', fp', s', r', _⟩ := h.drop.top
  have r' := RpL.one.mp r'
  simp only [Bool.and_eq_true] at d
  have z := dp_of s d.2 r
  have z' := dp_of s' d.1 r'
  refine ⟨_, _, z'.1, z.1, ?_, ?_, eqv_toPD d.1 d.2⟩
  · exact Bool.and_eq_true_iff.mpr ⟨z'.2, decide_eq_true (depth_toPD d.1)⟩
  · exact Bool.and_eq_true_iff.mpr ⟨z.2, decide_eq_true (depth_toPD d.2)⟩
theorem isNon_ok (h : I K H0 F0 ρ σ (g1 o t va :: τ) H) : decide (va = .non) = isNon t := by
  obtain ⟨F, fp, s, r, _⟩ := h.top
  have r := RpL.one.mp r
  cases t <;> simp only [Rp] at r
  · rw [r.1]; rfl
  · rw [r.1]; rfl
  · rw [r.1]; rfl
  · rw [r.1]; rfl
  · obtain ⟨a, _, rfl, _⟩ := r; rfl
  · obtain ⟨a, _, _, _, rfl, _⟩ := r; rfl
theorem cmp_ok {op : CO} (h : I K H0 F0 ρ σ (g1 q u vb :: g1 o t va :: τ) H) (e : cmpV op t u = some b) (hq : Q (.bl b) H) : rC K op va vb H Q := by
  unfold cmpV at e
  split at e
  · split at e
    · rename_i d
      cases e
      obtain ⟨d1, e1, a1, a2, a3, a4, a5⟩ := eq_ok h d
      exact ⟨d1, e1, a1, a2, a3, a4, by rw [a5]; exact hq⟩
    · cases e
  · split at e
    · rename_i d
      cases e
      obtain ⟨d1, e1, a1, a2, a3, a4, a5⟩ := eq_ok h d
      exact ⟨d1, e1, a1, a2, a3, a4, by rw [a5]; exact hq⟩
    · cases e
  · cases e; rw [h.isInt, h.drop.isInt]; exact .inl ⟨_, _, rfl, rfl, hq⟩
  · cases e; rw [h.isInt, h.drop.isInt]; exact ⟨_, _, rfl, rfl, hq⟩
  · cases e; rw [h.isInt, h.drop.isInt]; exact ⟨_, _, rfl, rfl, hq⟩
  · cases e; rw [h.isInt, h.drop.isInt]; exact ⟨_, _, rfl, rfl, hq⟩
  · cases e
    obtain ⟨rfl, a1⟩ := h.isStr
    obtain ⟨rfl, a2⟩ := h.drop.isStr
    exact .inr ⟨_, _, rfl, rfl, hq⟩
  · cases e; exact ⟨h.isNon, by rw [isNon_ok h.drop]; exact hq⟩
  · cases e; exact ⟨h.isNon, by rw [isNon_ok h.drop]; exact hq⟩
  · rcases memV_ok h e with ⟨p, xs, e1, e2, e3, e4, e5⟩ | ⟨c, z, e1, e2, e3⟩
    · exact .inl ⟨p, xs, e1, e2, e3, e4, by rw [if_neg Bool.false_ne_true, e5]; exact hq⟩
    · exact .inr ⟨c, z, e1, e2, by rw [e3]; exact hq⟩
  · obtain ⟨b', e', rfl⟩ := omap e
    rcases memV_ok h e' with ⟨p, xs, e1, e2, e3, e4, e5⟩ | ⟨c, z, e1, e2, e3⟩
    · exact .inl ⟨p, xs, e1, e2, e3, e4, by rw [if_pos rfl, e5]; exact hq⟩
    · exact .inr ⟨c, z, e1, e2, by rw [e3]; exact hq⟩
  · cases e
end
end Ev
namespace Ev
open PySem PySem.Spec PyProof.Rows L2
section
variable {K : PySem.W.Frag} {F H H0 F0 : Hp} {ρ ρ' : Env} {σ : L2.St} {τ τ' : List Gp}
theorem RTmp.perm {τ τ' : List Gp} (p : τ.Perm τ') : ∀ {fp : List Addr}, RTmp K F H τ fp → ∃ fp', RTmp K F H τ' fp' ∧ fp.Perm fp' := by
  induction p with
  | nil => intro fp h; exact ⟨fp, h, .refl _⟩
  | cons g _ ih =>
    intro fp h
    obtain ⟨f1, f2, h1, h2, rfl⟩ := h
    obtain ⟨f3, h3, p3⟩ := ih h2
    exact ⟨f1 ++ f3, ⟨f1, f3, h1, h3, rfl⟩, p3.append_left _⟩
  | swap g g' l =>
    intro fp h
    obtain ⟨f1, f2, h1, ⟨f3, f4, h3, h4, rfl⟩, rfl⟩ := h
    refine ⟨f3 ++ (f1 ++ f4), ⟨f3, f1 ++ f4, h3, ⟨f1, f4, h1, h4, rfl⟩, rfl⟩, ?_⟩
    rw [← List.append_assoc, ← List.append_assoc]
    exact List.perm_append_comm.append_right _
  | trans _ _ ih1 ih2 =>
    intro fp h
    obtain ⟨f1, h1, p1⟩ := ih1 h
    obtain ⟨f2, h2, p2⟩ := ih2 h1
    exact ⟨f2, h2, p1.trans p2⟩
theorem I.perm (h : I K H0 F0 ρ σ τ H) (p : τ.Perm τ') : I K H0 F0 ρ σ τ' H := by
  obtain ⟨F, fρ, fτ, c⟩ := h
  obtain ⟨f, h', pf⟩ := c.tmp.perm p
  exact ⟨F, fρ, f, c.fh, c.h0, c.f0, fun a m => c.ow a ((pf.append_left fρ).mem_iff.mpr m), (pf.append_left fρ).nodup_iff.mp c.nd, c.env, h'⟩
/-- the arguments as they come, the last one on top -/
def stk : List T → List Own → List V → List Gp → List Gp
  | t :: ts, o :: os, v :: vs, τ => stk ts os vs (g1 o t v :: τ)
  | _, _, _, τ => τ
theorem stk_perm : ∀ (ts : List T) (os : List Own) (vs : List V) (g : Gp) (τ : List Gp), (stk ts os vs (g :: τ)).Perm (g :: stk ts os vs τ)
  | t :: ts, o :: os, v :: vs, g, τ => by
    show (stk ts os vs (g1 o t v :: g :: τ)).Perm (g :: stk ts os vs (g1 o t v :: τ))
    refine (stk_perm ts os vs _ _).trans ?_
    refine ((stk_perm ts os vs g τ).cons _).trans ?_
    refine (List.Perm.swap _ _ _).trans ?_
    exact (stk_perm ts os vs _ _).symm.cons _
  | [], _, _, _, _ => .refl _
  | _ :: _, [], _, _, _ => .refl _
  | _ :: _, _ :: _, [], _, _ => .refl _
def Lk (σ : L2.St) (o : Own) (v : V) : Prop := ∀ i, o = .view i → σ[i]? = some (some v)
def LkL (σ : L2.St) : List Own → List V → Prop
  | [], [] => True
  | o :: os, v :: vs => Lk σ o v ∧ LkL σ os vs
  | _, _ => False
theorem I.reL : ∀ {ts : List T} {os : List Own} {vs : List V} {ρ : Env} {τ : List Gp} {z : List T × Env}, I K H0 F0 ρ σ (stk ts os vs τ) H → Ev.reL ts os ρ = some z → LkL σ os vs → I K H0 F0 z.2 σ (⟨.cold, z.1, vs⟩ :: τ) H ∧ z.1.length = vs.length
  | [], [], [], ρ, τ, z, h, e, _ => by
    cases e
    exact ⟨I.nil h, rfl⟩
  | t :: ts, o :: os, v :: vs, ρ, τ, z, h, e, lk => by
    simp only [Ev.reL] at e
    obtain ⟨x, e1, e⟩ := obind e
    obtain ⟨y, e2, rfl⟩ := omap e
    have h1 := (I.perm h (stk_perm ts os vs _ _)).re e1 lk.1
    have h2 := I.reL (I.perm h1 (stk_perm ts os vs _ _).symm) e2 lk.2
    exact ⟨h2.1.swap.join, by simp [h2.2]⟩
  | [], [], _ :: _, _, _, _, _, _, lk => lk.elim
  | _ :: _, _ :: _, [], _, _, _, _, _, lk => lk.elim
  | [], _ :: _, _, _, _, _, _, e, _ => by simp [Ev.reL] at e
  | _ :: _, [], _, _, _, _, _, e, _ => by simp [Ev.reL] at e
theorem I.frzG {g : Gp} (h : I K H0 F0 ρ σ (g :: τ) H) (nv : g.o.isView = false) : I K H0 F0 ρ σ (⟨.cold, g.ts, g.vs⟩ :: τ) H := h.frz nv
end
/-- the claim of kept values together -/
def gO (o : Own) : Own := if o.isFull then .full else .cold
section
variable {P : Program} {w : World} {K : PySem.W.Frag} {mg : Str → Option Value} {base : Heap} {k : Nat} {N : List Str} {sc : Scope} {U : BF → Bool} {G : List Nat → Option T} {C : List Nat → List T → Option (T × Own)}
variable {X : Cx} {H0 F0 H H' : Hp} {ρ ρ' : Env} {σ : L2.St} {τ : List Gp} {t u y : T} {o q : Own} {va vb v : V} {r : R} {Q : VK}
/-- SV for each of some -/
inductive SVs (P : Program) (w : World) (K : PySem.W.Frag) (mg : Str → Option Value) (base : Heap) (k : Nat) (N : List Str) (sc : Scope) : List Den → List Expr → Prop
  | nil : SVs P w K mg base k N sc [] []
  | cons {d : Den} {ds : List Den} {p : Expr} {ps : List Expr} (h : SV P w K mg base k N sc d p) (pl : Plain p) (t : SVs P w K mg base k N sc ds ps) : SVs P w K mg base k N sc (d :: ds) (p :: ps)
theorem pa_V {ds : List Den} {ps : List Expr} (h : SVs P w K mg base k N sc ds ps) : ∀ X, XOk P w K mg base k N sc X → ∃ t, PA X ps t ∧ ∀ H0 F0 ρ σ τ H x Q, I K H0 F0 ρ σ τ H → (anyC ds = true → NoV τ) → evV ds ρ = some x →
    (∀ vs H', I K H0 F0 x.2.2 σ (stk x.1 x.2.1 vs τ) H' → LkL σ x.2.1 vs → Q vs H') → t σ H Q := by
  induction h with
  | nil =>
    intro X ok
    refine ⟨tNil, pa_nil, fun H0 F0 ρ σ τ H x Q hI hv e q => ?_⟩
    cases e
    exact q [] H hI trivial
  | cons h pl _ ih =>
    intro X ok
    obtain ⟨t1, p1, q1⟩ := h X ok
    obtain ⟨t2, p2, q2⟩ := ih X ok
    refine ⟨tCons t1 t2, pa_cons p1 p2 (pl.star _ _), fun H0 F0 ρ σ τ H x Q hI hv e q => ?_⟩
    simp only [evV] at e
    obtain ⟨r0, e1, e⟩ := obind e
    obtain ⟨r, e0, e⟩ := obind e
    obtain ⟨y, e2, rfl⟩ := omap e
    refine q1 _ _ _ _ _ _ r0 _ hI (fun c => hv (by simp [anyC, c])) e1 fun v H1 hI0 l0 => ?_
    obtain ⟨hI1, l1, n1⟩ := hI0.vo e0 l0
    refine q2 _ _ _ _ _ _ y _ hI1 (fun c => (hv (by simp [anyC, c])).cons (n1 c)) e2 fun vs H2 hI2 l2 => ?_
    exact q _ _ hI2 ⟨l1, l2⟩
theorem minO_full {a b : Own} : (minO a b).isFull = (a.isFull && b.isFull) := by
  unfold minO
  cases a <;> cases b <;> rfl
theorem full_of {o : Own} (h : o.isFull = true) : o = .full := by cases o <;> first | rfl | cases h
theorem evL_own : ∀ {ds : List Den} {ρ : Env} {x : List T × Own × Env}, evL ds ρ = some x → x.2.1 = .full ∨ x.2.1 = .shal
  | [], _, _, e => by cases e; exact .inl rfl
  | d :: ds, ρ, x, e => by
    simp only [evL] at e
    obtain ⟨r0, _, e⟩ := obind e
    obtain ⟨r, _, e⟩ := obind e
    obtain ⟨y, _, rfl⟩ := omap e
    show minO _ _ = _ ∨ minO _ _ = _
    unfold minO
    split
    · exact .inl rfl
    · exact .inr rfl
theorem pa_L {ds : List Den} {ps : List Expr} (h : SVs P w K mg base k N sc ds ps) : ∀ X, XOk P w K mg base k N sc X → ∃ t, PA X ps t ∧ ∀ H0 F0 ρ σ τ H x Q, I K H0 F0 ρ σ τ H → (anyC ds = true → NoV τ) → evL ds ρ = some x →
    (∀ vs H', I K H0 F0 x.2.2 σ (⟨gO x.2.1, x.1, vs⟩ :: τ) H' → x.1.length = vs.length → Q vs H') → t σ H Q := by
  induction h with
  | nil =>
    intro X ok
    refine ⟨tNil, pa_nil, fun H0 F0 ρ σ τ H x Q hI hv e q => ?_⟩
    cases e
    exact q [] H (I.nil hI) rfl
  | cons h pl _ ih =>
    intro X ok
    obtain ⟨t1, p1, q1⟩ := h X ok
    obtain ⟨t2, p2, q2⟩ := ih X ok
    refine ⟨tCons t1 t2, pa_cons p1 p2 (pl.star _ _), fun H0 F0 ρ σ τ H x Q hI hv e q => ?_⟩
    simp only [evL] at e
    obtain ⟨r0, e1, e⟩ := obind e
    obtain ⟨r, e1', e⟩ := obind e
    obtain ⟨y, e2, rfl⟩ := omap e
    refine q1 _ _ _ _ _ _ r0 _ hI (fun c => hv (by simp [anyC, c])) e1 fun v H1 hI1 l1 => ?_
    obtain ⟨nv, hI1'⟩ := hI1.val e1' l1
    refine q2 _ _ _ _ _ _ y _ hI1' (fun c => (hv (by simp [anyC, c])).cons nv) e2 fun vs H2 hI2 l2 => ?_
    refine q _ _ ?_ (by simp [l2])
    show I K H0 F0 y.2.2 σ (⟨gO (minO r.o y.2.1), r.t :: y.1, v :: vs⟩ :: τ) H2
    unfold gO
    rw [minO_full]
    cases ef : r.o.isFull with
    | true =>
      have er := full_of ef
      rw [er] at hI2
      cases eg : y.2.1.isFull with
      | true =>
        unfold gO at hI2
        rw [eg] at hI2
        exact hI2.swap.join
      | false =>
        unfold gO at hI2
        rw [eg] at hI2
        exact (hI2.swap.frz rfl).join
    | false =>
      have nv2 : (gO y.2.1).isView = false := by unfold gO; split <;> rfl
      exact ((hI2.frz nv2).swap.frz nv).join
theorem sv_bin {op : BO} {a b : E} {pa pb : Expr} {pos : Pos} (ha : SV P w K mg base k N sc (den G C a) pa) (hb : SV P w K mg base k N sc (den G C b) pb) : SV P w K mg base k N sc (den G C (.bin op a b)) (.BinOp pa op.op pb pos) := fun X ok => by
  obtain ⟨ta, p1, q1⟩ := ha X ok
  obtain ⟨tb, p2, q2⟩ := hb X ok
  refine ⟨_, pe_op (opB op) p1 p2, fun H0 F0 ρ σ τ H r Q hI hv he q => ?_⟩
  simp only [den, valD] at he
  obtain ⟨r0, e1, he⟩ := obind he
  obtain ⟨ra, e0, he⟩ := obind he
  obtain ⟨rb, e2, he⟩ := obind he
  split at he
  · rename_i hr
    refine q1 _ _ _ _ _ _ r0 _ hI (fun c => hv (by simp [den, valD, c])) e1 fun v H1 hI0 l0 => ?_
    obtain ⟨hI1, l1, n1⟩ := hI0.vo e0 l0
    refine q2 _ _ _ _ _ _ rb _ hI1 (fun c => (hv (by simp [den, valD, c])).cons (n1 c)) e2 fun v2 H2 hI2 l2 => ?_
    rw [ok.K_]
    exact bin_ok hI2 hr he l1 l2 fun v H' h nv => q v H' h (nolink nv)
  · cases he
theorem sv_neg {a : E} {pa : Expr} {pos : Pos} (ha : SV P w K mg base k N sc (den G C a) pa) : SV P w K mg base k N sc (den G C (.neg a)) (.UnaryOp .USub pa pos) := fun X ok => by
  obtain ⟨ta, p1, q1⟩ := ha X ok
  refine ⟨_, pe_un un_neg p1, fun H0 F0 ρ σ τ H r Q hI hv he q => ?_⟩
  simp only [den, valD] at he
  obtain ⟨ra, e1, he⟩ := obind he
  refine q1 _ _ _ _ _ _ ra _ hI (fun c => hv (by simpa [den, valD, tstD] using c)) e1 fun v H1 hI1 l1 => ?_
  obtain ⟨t, o, ρ1⟩ := ra
  cases t with
  | int i =>
    cases he
    exact ⟨i, hI1.isInt, q _ _ (hI1.drop.int _) (nolink rfl)⟩
  | _ => cases he
theorem tru_of (h : I K H0 F0 ρ σ (g1 o t v :: τ) H) {c : Bool} (e : truth t = some c) : TruV K v H c := by
  cases t with
  | non => rw [h.isNon]; cases e; rfl
  | bl b => rw [h.isBl]; cases e; rfl
  | int i => rw [h.isInt]; cases e; rfl
  | str s =>
    obtain ⟨rfl, a⟩ := h.isStr
    cases e
    refine ⟨a.1, ?_⟩
    cases s with
    | nil => rfl
    | cons c s =>
      show true = _
      have : ((((c :: s).toArray.size : Nat) : Int) != 0) = true := by simp; omega
      exact this.symm
  | tup xs =>
    obtain ⟨a, ws, rfl, r, l, _⟩ := h.kidsT
    cases e
    refine .inr (.inl ⟨ws, r, ?_⟩)
    cases xs <;> cases ws <;> first | rfl | (simp at l)
  | lst xs =>
    obtain ⟨a, ws, rfl, r, l, _⟩ := h.kidsL
    cases e
    refine .inl ⟨ws, .inl r, ?_⟩
    cases xs <;> cases ws <;> first | rfl | (simp at l)
  | dct ks vs =>
    obtain ⟨F, fp, s, r, _⟩ := h.top
    have r := RpL.one.mp r
    simp only [Rp] at r
  | obj _ _ _ => cases e
/-- a test that is its value's truth -/
theorem st_of {d : Den} {pe : Expr} (h : SV P w K mg base k N sc d pe) (hd : d.t = tOf d.v) (he : TruE pe) : ST P w K mg base k N sc d pe := fun X ok => by
  obtain ⟨ta, p1, q1⟩ := h X ok
  refine ⟨_, pt_truth p1 (he X.env), fun H0 F0 ρ σ τ H r Q hI hv e q => ?_⟩
  rw [hd] at e
  obtain ⟨rr, e1, e⟩ := obind e
  obtain ⟨c, e2, rfl⟩ := omap e
  refine q1 _ _ _ _ _ _ rr _ hI hv e1 fun v H1 hI1 l1 => ?_
  rw [ok.K_]
  exact ⟨c, tru_of hI1 e2, q _ hI1.drop⟩
theorem st_notv {a : E} {pa : Expr} {pos : Pos} (ha : ST P w K mg base k N sc (den G C a) pa) : ST P w K mg base k N sc (den G C (.notv a)) (.UnaryOp .Not pa pos) := fun X ok => by
  obtain ⟨ta, p1, q1⟩ := ha X ok
  refine ⟨_, pt_not p1, fun H0 F0 ρ σ τ H r Q hI hv he q => ?_⟩
  simp only [den, tstD] at he
  obtain ⟨ra, e1, rfl⟩ := omap he
  exact q1 _ _ _ _ _ _ ra _ hI (fun c => hv (by simpa [den, tstD] using c)) e1 fun H1 hI1 => q H1 hI1
theorem sv_notv {a : E} {pa : Expr} {pos : Pos} (ha : SV P w K mg base k N sc (den G C a) pa) : SV P w K mg base k N sc (den G C (.notv a)) (.UnaryOp .Not pa pos) := fun X ok => by
  obtain ⟨ta, p1, q1⟩ := ha X ok
  refine ⟨_, L2.pe_notT p1, fun H0 F0 ρ σ τ H r Q hI hv he q => ?_⟩
  simp only [den, tstD] at he
  obtain ⟨ra, e1, he⟩ := obind he
  obtain ⟨c, e2, rfl⟩ := omap he
  refine q1 _ _ _ _ _ _ ra _ hI (fun c => hv (by simpa [den, valD, tstD] using c)) e1 fun v H1 hI1 l1 => ?_
  rw [ok.K_]
  exact ⟨c, tru_of hI1 e2, q _ _ (hI1.drop.bl _) (nolink rfl)⟩
theorem sv_cmp {op : CO} {a b : E} {pa pb : Expr} {pos : Pos} (ha : SV P w K mg base k N sc (den G C a) pa) (hb : SV P w K mg base k N sc (den G C b) pb) (hp : behindInMarks op.op pb = false) : SV P w K mg base k N sc (den G C (.cmp op a b)) (.Compare pa [op.op] [pb] pos) := fun X ok => by
  obtain ⟨ta, p1, q1⟩ := ha X ok
  obtain ⟨tb, p2, q2⟩ := hb X ok
  refine ⟨_, pe_cmpR (opC ok.room.units op) p1 p2 hp, fun H0 F0 ρ σ τ H r Q hI hv he q => ?_⟩
  simp only [den, valD] at he
  obtain ⟨r0, e1, he⟩ := obind he
  obtain ⟨ra, e0, he⟩ := obind he
  obtain ⟨rb, e2, he⟩ := obind he
  obtain ⟨c, e3, rfl⟩ := omap he
  refine q1 _ _ _ _ _ _ r0 _ hI (fun c => hv (by simp [den, valD, c])) e1 fun v H1 hI0 l0 => ?_
  obtain ⟨hI1, l1, n1⟩ := hI0.vo e0 l0
  refine q2 _ _ _ _ _ _ rb _ hI1 (fun c => (hv (by simp [den, valD, c])).cons (n1 c)) e2 fun v2 H2 hI2 l2 => ?_
  rw [ok.K_]
  exact cmp_ok hI2 e3 (q _ _ (hI2.drop.drop.bl _) (nolink rfl))
theorem st_cmp {op : CO} {a b : E} {pa pb : Expr} {pos : Pos} (ha : SV P w K mg base k N sc (den G C a) pa) (hb : SV P w K mg base k N sc (den G C b) pb) (hp : behindInMarks op.op pb = false) : ST P w K mg base k N sc (den G C (.cmp op a b)) (.Compare pa [op.op] [pb] pos) := fun X ok => by
  obtain ⟨ta, p1, q1⟩ := ha X ok
  obtain ⟨tb, p2, q2⟩ := hb X ok
  refine ⟨_, pt_cmpR (opC ok.room.units op) p1 p2 hp, fun H0 F0 ρ σ τ H r Q hI hv he q => ?_⟩
  simp only [den, valD, tOf] at he
  obtain ⟨rr, he, he'⟩ := obind he
  obtain ⟨r0, e1, he⟩ := obind he
  obtain ⟨ra, e0, he⟩ := obind he
  obtain ⟨rb, e2, he⟩ := obind he
  obtain ⟨c, e3, rfl⟩ := omap he
  simp only [truth, Option.map_some, Option.some.injEq] at he'
  subst he'
  refine q1 _ _ _ _ _ _ r0 _ hI (fun c => hv (by simp [den, valD, c])) e1 fun v H1 hI0 l0 => ?_
  obtain ⟨hI1, l1, n1⟩ := hI0.vo e0 l0
  refine q2 _ _ _ _ _ _ rb _ hI1 (fun c => (hv (by simp [den, valD, c])).cons (n1 c)) e2 fun v2 H2 hI2 l2 => ?_
  rw [ok.K_]
  exact cmp_ok hI2 e3 ⟨c, rfl, q _ hI2.drop.drop⟩
theorem sv_chain {op op' : CO} {a b c : E} {pa pb pc : Expr} {pos : Pos} (ha : SV P w K mg base k N sc (den G C a) pa) (hb : SV P w K mg base k N sc (den G C b) pb) (hc : SV P w K mg base k N sc (den G C c) pc)
    (h2 : behindInMarks op'.op pc = false) : SV P w K mg base k N sc (den G C (.chain op op' a b c)) (.Compare pa [op.op, op'.op] [pb, pc] pos) := fun X ok => by
  obtain ⟨ta, p1, q1⟩ := ha X ok
  obtain ⟨tb, p2, q2⟩ := hb X ok
  obtain ⟨tc, p3, q3⟩ := hc X ok
  refine ⟨_, pe_chain (opC ok.room.units op) (opC ok.room.units op') p1 p2 p3 h2, fun H0 F0 ρ σ τ H r Q hI hv he q => ?_⟩
  simp only [den, valD] at he
  obtain ⟨r0, e1, he⟩ := obind he
  obtain ⟨ra, e0, he⟩ := obind he
  obtain ⟨r1, e2, he⟩ := obind he
  obtain ⟨rb, e20, he⟩ := obind he
  obtain ⟨c1, e3, he⟩ := obind he
  refine q1 _ _ _ _ _ _ r0 _ hI (fun c => hv (by simp [den, valD, c])) e1 fun v H1 hI0 l0 => ?_
  obtain ⟨hI1, l1, n1⟩ := hI0.vo e0 l0
  refine q2 _ _ _ _ _ _ r1 _ hI1 (fun c => (hv (by simp [den, valD, c])).cons (n1 (by simp [c]))) e2 fun v2 H2 hI20 l20 => ?_
  obtain ⟨hI2, l2, n2⟩ := hI20.vo e20 l20
  rw [ok.K_]
  refine cmp_ok hI2 e3 ⟨c1, rfl, ?_⟩
  cases c1 with
  | false =>
    cases he
    exact iteF (q _ _ (hI2.drop.drop.bl _) (nolink rfl))
  | true =>
    obtain ⟨rc, e4, he⟩ := obind he
    obtain ⟨c2, e5, rfl⟩ := omap he
    refine iteT (q3 _ _ _ _ _ _ rc _ hI2 (fun c => ((hv (by simp [den, valD, c])).cons (n1 (by simp [c]))).cons (n2 c)) e4 fun v3 H3 hI3 l3 => ?_)
    exact cmp_ok hI3 e5 (q _ _ (hI3.drop.drop.drop.bl _) (nolink rfl))
theorem st_chain {op op' : CO} {a b c : E} {pa pb pc : Expr} {pos : Pos} (ha : SV P w K mg base k N sc (den G C a) pa) (hb : SV P w K mg base k N sc (den G C b) pb) (hc : SV P w K mg base k N sc (den G C c) pc)
    (h2 : behindInMarks op'.op pc = false) : ST P w K mg base k N sc (den G C (.chain op op' a b c)) (.Compare pa [op.op, op'.op] [pb, pc] pos) := fun X ok => by
  obtain ⟨ta, p1, q1⟩ := ha X ok
  obtain ⟨tb, p2, q2⟩ := hb X ok
  obtain ⟨tc, p3, q3⟩ := hc X ok
  refine ⟨_, pt_chain (opC ok.room.units op) (opC ok.room.units op') p1 p2 p3 h2, fun H0 F0 ρ σ τ H r Q hI hv he q => ?_⟩
  simp only [den, valD, tOf] at he
  obtain ⟨rr, he, he'⟩ := obind he
  obtain ⟨r0, e1, he⟩ := obind he
  obtain ⟨ra, e0, he⟩ := obind he
  obtain ⟨r1, e2, he⟩ := obind he
  obtain ⟨rb, e20, he⟩ := obind he
  obtain ⟨c1, e3, he⟩ := obind he
  refine q1 _ _ _ _ _ _ r0 _ hI (fun c => hv (by simp [den, valD, c])) e1 fun v H1 hI0 l0 => ?_
  obtain ⟨hI1, l1, n1⟩ := hI0.vo e0 l0
  refine q2 _ _ _ _ _ _ r1 _ hI1 (fun c => (hv (by simp [den, valD, c])).cons (n1 (by simp [c]))) e2 fun v2 H2 hI20 l20 => ?_
  obtain ⟨hI2, l2, n2⟩ := hI20.vo e20 l20
  rw [ok.K_]
  refine cmp_ok hI2 e3 ⟨c1, rfl, ?_⟩
  cases c1 with
  | false =>
    cases he
    cases he'
    exact iteF ⟨false, rfl, q _ hI2.drop.drop⟩
  | true =>
    obtain ⟨rc, e4, he⟩ := obind he
    obtain ⟨c2, e5, rfl⟩ := omap he
    cases he'
    refine iteT (q3 _ _ _ _ _ _ rc _ hI2 (fun c => ((hv (by simp [den, valD, c])).cons (n1 (by simp [c]))).cons (n2 c)) e4 fun v3 H3 hI3 l3 => ?_)
    exact cmp_ok hI3 e5 ⟨c2, rfl, q _ hI3.drop.drop.drop⟩
end
end Ev
namespace Ev
open PySem PySem.Spec PyProof.Rows L2
section
variable {X : Cx}
/-- xs[::-1] of a list or a text -/
def tRevQ (K : PySem.W.Frag) (te : TE) : TE := fun σ H Q => te σ H fun x H1 => (∃ a xs, x = .ref a ∧ SqL K H1 a xs ∧ ∀ p, H1 p = none → Q (.ref p) (upd H1 p (.lst xs.reverse))) ∨ (∃ l, x = .str (S8 l) ∧ l.length ≤ sizeLine ∧ Q (.str (S8 l.reverse)) H1)
theorem rev_pick (n : Nat) : PySem.Builtin.Str.strSliceIndices none none (-1) n = (List.range n).reverse := by
  have h : PySem.Builtin.Str.strSliceIndices none none (-1) n = PySem.sliceRange ((n : Int) - 1) (-1) (-1) := by
    first | rfl | simp [PySem.Builtin.Str.strSliceIndices]
  rw [h, PySem.W.krv_sliceRange, PySem.W.krv_range]
theorem pe_revQ {e : Expr} {te : TE} {n : Nat} {q1 q2 q3 pos : Pos} (he : PE X e te) : PE X (.Subscript e (.Slice none none (some (.UnaryOp .USub (.Constant (.int 1) n q1) q2)) q3) pos) (tRevQ X.K te) := by
  refine ⟨fun pins s σ H Q hI hq => ?_⟩
  refine Subscript_ (thn (he.run pins s σ H _ hI hq) fun val sA ⟨x, HA, IA, rA, alt⟩ => ?_)
  have minus := po_some (pe_un (X := X) (pos := q2) un_neg (pe_int (i := 1) (j := n) (pos := q1)))
  refine wpAny_Slice (thn (po_none.run pins sA σ HA (fun o G => o = none ∧ G = HA) IA ⟨rfl, rfl⟩) fun wl sB ⟨l1, HB, IB, pB, eB, gB⟩ => ?_)
  subst eB gB
  refine thn (po_none.run pins sB σ HB (fun o G => o = none ∧ G = HB) IB ⟨rfl, rfl⟩) fun wu sC ⟨l2, HC, IC, pC, eC, gC⟩ => ?_
  subst eC gC
  refine thn (minus.run pins sC σ HC (fun o G => o = some (-1) ∧ G = HC) IC ⟨1, rfl, -1, rfl, rfl, rfl⟩) fun wst sD ⟨l3, HD, ID, pD, eD, gD⟩ => ?_
  subst eD gD
  have IE : Inv X pins σ HD { sD with heap := sD.heap.push { cls := .type "slice", data := .fields #[wl, wu, wst] } } := ID.kept (t' := sD.toks) fun b ob z => Heap.get?_push_of_some _ z
  rcases alt with ⟨a, xs, rfl, hx, fin⟩ | ⟨l, rfl, hz, fin⟩
  · cases rA
    obtain ⟨items, vals, isL, hsz⟩ := IE.list hx
    have hlen := vals.length
    show wpAny (model X.prog X.w) X.A (subscriptTail e (.Slice none none (some (.UnaryOp .USub (.Constant (.int 1) n q1) q2)) q3) (.ref a) (.ref sD.heap.objs.size)) (EP X pins σ Q) X.xe { sD with heap := sD.heap.push { cls := .type "slice", data := .fields #[wl, wu, wst] } }
    refine PyProof.Rows.tail_any (ops := [.ref a, .ref sD.heap.objs.size]) isL.isList.typeIs (PySem.slot_list_getitem.lookup) ?_ (by with_unfolding_all rfl)
    refine wpAny_getItem_list_slice isL.isList (Heap.IsSliceOf.new _ wl wu wst) pB pC pD (by decide) ?_ (by rw [List.size_toArray]; omega)
    rw [PySem.W.krv_pick]
    refine ⟨.ref _, _, IE.laid (t' := sD.toks) (o := .lst xs.reverse) (fun b ob z => Heap.get?_push_of_some _ z) (Nat.le_refl _) ?_, rfl, fin _ (IE.hok.fresh (Nat.le_refl _))⟩
    exact ⟨by rw [List.length_reverse]; exact hsz, _, 0, vals.reverse, Heap.get?_push_size _ rfl⟩
  · obtain ⟨tk, rfl⟩ := rA
    have kl : wl = partValue none := by cases pB; rfl
    have ku : wu = partValue none := by cases pC; rfl
    have ks : ∃ t9, wst = partValue (some (-1, t9)) := by
      cases pD
      exact ⟨_, rfl⟩
    obtain ⟨t9, ks⟩ := ks
    show wpAny (model X.prog X.w) X.A (subscriptTail e (.Slice none none (some (.UnaryOp .USub (.Constant (.int 1) n q1) q2)) q3) (.str (S8 l) tk) (.ref sD.heap.objs.size)) (EP X pins σ Q) X.xe { sD with heap := sD.heap.push { cls := .type "slice", data := .fields #[wl, wu, wst] } }
    refine PyProof.Rows.tail_any (ops := [.str (S8 l) tk, .ref sD.heap.objs.size]) (typeIs_str _ _ _) (PySem.F.slot_str_getitem.lookup) ?_ (by with_unfolding_all rfl)
    subst kl ku ks
    refine wpAny_getItem_str_slice (l := none) (u := none) (st := some (-1, t9)) ⟨_, Heap.get?_push_size _ rfl, rfl, rfl⟩ rfl ?_
    have hp : (slicePicked (S8 l) none none (some (-1, t9))).filterMap ((S8 l).cps[·]?) = l.reverse := by
      show (PySem.Builtin.Str.strSliceIndices none none (-1) (S8 l).length).filterMap _ = _
      rw [rev_pick, List.filterMap_reverse]
      have hall := PySem.W.krv_all l.toArray
      have : (S8 l).length = l.toArray.size := rfl
      rw [this]
      show ((List.range l.toArray.size).filterMap (l.toArray[·]?)).reverse = _
      rw [hall]
    have hm : sliceMade (S8 l) tk none none (some (-1, t9)) = .str (S8 l.reverse) := by
      unfold sliceMade
      rw [hp]
      have : (((some ((-1 : Int), t9)).map (·.1)).getD 1 == 1) = false := rfl
      rw [this, Bool.false_and]
      rfl
    rw [hm]
    refine ⟨?_, .str (S8 l.reverse), HD, IE.tok _, ⟨_, rfl⟩, fin⟩
    show (S8 l.reverse).length ≤ sizeLine
    simpa [S8, Str.length] using hz
end
section
variable {P : Program} {w : World} {K : PySem.W.Frag} {mg : Str → Option Value} {base : Heap} {k : Nat} {N : List Str} {sc : Scope} {U : BF → Bool} {G : List Nat → Option T} {C : List Nat → List T → Option (T × Own)}
variable {X : Cx} {H0 F0 H H' F : Hp} {ρ ρ' : Env} {σ : L2.St} {τ : List Gp} {t u y : T} {o q : Own} {va vb v : V} {r : R} {Q : VK}
theorem sv_and {ds : List Den} {ps : List Expr} {pos : Pos} (h : SVs P w K mg base k N sc ds ps) : SV P w K mg base k N sc ⟨anyC ds, andVals ds, andTs ds, iOf (andVals ds)⟩ (.BoolOp .And ps pos) := by
  induction h with
  | nil => exact fun X ok => ⟨fun _ _ _ => False, ⟨fun _ _ _ _ _ _ z => z.elim⟩, fun H0 F0 ρ σ τ H r Q hI hv he q => by cases he⟩
  | @cons d ds p ps h pl t ih =>
    intro X ok
    cases t with
    | nil =>
      obtain ⟨ta, p1, q1⟩ := h X ok
      exact ⟨ta, pe_one p1, fun H0 F0 ρ σ τ H r Q hI hv he q => q1 _ _ _ _ _ _ r _ hI (fun c => hv (by simp [anyC, c])) he q⟩
    | @cons d' ds' p' ps' h' pl' t' =>
      obtain ⟨ta, p1, q1⟩ := h X ok
      obtain ⟨tb, p2, q2⟩ := ih X ok
      refine ⟨_, pe_and p1 p2, fun H0 F0 ρ σ τ H r Q hI hv he q => ?_⟩
      simp only [andVals] at he
      obtain ⟨ra, e1, he⟩ := obind he
      refine q1 _ _ _ _ _ _ ra _ hI (fun c => hv (by simp [anyC, c])) e1 fun v H1 hI1 l1 => ?_
      obtain ⟨t0, o0, ρ0⟩ := ra
      cases t0 with
      | bl b =>
        refine ⟨b, hI1.isBl, ?_⟩
        cases b with
        | true => exact iteT (q2 _ _ _ _ _ _ r _ hI1.drop (fun c => hv (by simp only [anyC, Bool.or_eq_true] at c ⊢; exact .inr c)) he q)
        | false => cases he; exact iteF (q _ _ (hI1.drop.bl _) (nolink rfl))
      | _ => cases he
theorem sv_or {ds : List Den} {ps : List Expr} {pos : Pos} (h : SVs P w K mg base k N sc ds ps) : SV P w K mg base k N sc ⟨anyC ds, orVals ds, orTs ds, iOf (orVals ds)⟩ (.BoolOp .Or ps pos) := by
  induction h with
  | nil => exact fun X ok => ⟨fun _ _ _ => False, ⟨fun _ _ _ _ _ _ z => z.elim⟩, fun H0 F0 ρ σ τ H r Q hI hv he q => by cases he⟩
  | @cons d ds p ps h pl t ih =>
    intro X ok
    cases t with
    | nil =>
      obtain ⟨ta, p1, q1⟩ := h X ok
      exact ⟨ta, pe_one p1, fun H0 F0 ρ σ τ H r Q hI hv he q => q1 _ _ _ _ _ _ r _ hI (fun c => hv (by simp [anyC, c])) he q⟩
    | @cons d' ds' p' ps' h' pl' t' =>
      obtain ⟨ta, p1, q1⟩ := h X ok
      obtain ⟨tb, p2, q2⟩ := ih X ok
      refine ⟨_, pe_or p1 p2, fun H0 F0 ρ σ τ H r Q hI hv he q => ?_⟩
      simp only [orVals] at he
      obtain ⟨ra, e1, he⟩ := obind he
      refine q1 _ _ _ _ _ _ ra _ hI (fun c => hv (by simp [anyC, c])) e1 fun v H1 hI1 l1 => ?_
      obtain ⟨t0, o0, ρ0⟩ := ra
      cases t0 with
      | bl b =>
        refine ⟨b, hI1.isBl, ?_⟩
        cases b with
        | false => exact iteF (q2 _ _ _ _ _ _ r _ hI1.drop (fun c => hv (by simp only [anyC, Bool.or_eq_true] at c ⊢; exact .inr c)) he q)
        | true => cases he; exact iteT (q _ _ (hI1.drop.bl _) (nolink rfl))
      | _ => cases he
/-- tests of each of some -/
inductive STs (P : Program) (w : World) (K : PySem.W.Frag) (mg : Str → Option Value) (base : Heap) (k : Nat) (N : List Str) (sc : Scope) : List Den → List Expr → Prop
  | nil : STs P w K mg base k N sc [] []
  | cons {d : Den} {ds : List Den} {p : Expr} {ps : List Expr} (h : ST P w K mg base k N sc d p) (t : STs P w K mg base k N sc ds ps) : STs P w K mg base k N sc (d :: ds) (p :: ps)
theorem pw_andL {ds : List Den} {ps : List Expr} {pos : Pos} (h : STs P w K mg base k N sc ds ps) : ∀ X, XOk P w K mg base k N sc X → ∃ t, PW X (.BoolOp .And ps pos) t ∧ ∀ H0 F0 ρ σ τ H r Q, I K H0 F0 ρ σ τ H → (anyC ds = true → NoV τ) → andTs ds ρ = some r →
    (∀ H', I K H0 F0 r.2 σ τ H' → Q r.1 H') → t σ H Q := by
  induction h with
  | nil => exact fun X ok => ⟨fun _ _ _ => False, ⟨fun _ _ _ _ _ _ _ z => z.elim⟩, fun H0 F0 ρ σ τ H r Q hI hv he q => by cases he⟩
  | @cons d ds p ps h t ih =>
    intro X ok
    cases t with
    | nil =>
      obtain ⟨ta, p1, q1⟩ := h X ok
      exact ⟨ta, pw_and1 p1, fun H0 F0 ρ σ τ H r Q hI hv he q => q1 _ _ _ _ _ _ r _ hI (fun c => hv (by simp [anyC, c])) he q⟩
    | @cons d' ds' p' ps' h' t' =>
      obtain ⟨ta, p1, q1⟩ := h X ok
      obtain ⟨tb, p2, q2⟩ := ih X ok
      refine ⟨_, pw_and p1 p2, fun H0 F0 ρ σ τ H r Q hI hv he q => ?_⟩
      simp only [andTs] at he
      obtain ⟨ra, e1, he⟩ := obind he
      refine q1 _ _ _ _ _ _ ra _ hI (fun c => hv (by simp [anyC, c])) e1 fun H1 hI1 => ?_
      obtain ⟨b, ρ0⟩ := ra
      cases b with
      | true => exact iteT (q2 _ _ _ _ _ _ r _ hI1 (fun c => hv (by simp only [anyC, Bool.or_eq_true] at c ⊢; exact .inr c)) he q)
      | false => cases he; exact iteF (q _ hI1)
theorem pw_orL {ds : List Den} {ps : List Expr} {pos : Pos} (h : STs P w K mg base k N sc ds ps) : ∀ X, XOk P w K mg base k N sc X → ∃ t, PW X (.BoolOp .Or ps pos) t ∧ ∀ H0 F0 ρ σ τ H r Q, I K H0 F0 ρ σ τ H → (anyC ds = true → NoV τ) → orTs ds ρ = some r →
    (∀ H', I K H0 F0 r.2 σ τ H' → Q r.1 H') → t σ H Q := by
  induction h with
  | nil => exact fun X ok => ⟨fun _ _ _ => False, ⟨fun _ _ _ _ _ _ _ z => z.elim⟩, fun H0 F0 ρ σ τ H r Q hI hv he q => by cases he⟩
  | @cons d ds p ps h t ih =>
    intro X ok
    cases t with
    | nil =>
      obtain ⟨ta, p1, q1⟩ := h X ok
      exact ⟨ta, pw_or1 p1, fun H0 F0 ρ σ τ H r Q hI hv he q => q1 _ _ _ _ _ _ r _ hI (fun c => hv (by simp [anyC, c])) he q⟩
    | @cons d' ds' p' ps' h' t' =>
      obtain ⟨ta, p1, q1⟩ := h X ok
      obtain ⟨tb, p2, q2⟩ := ih X ok
      refine ⟨_, pw_or p1 p2, fun H0 F0 ρ σ τ H r Q hI hv he q => ?_⟩
      simp only [orTs] at he
      obtain ⟨ra, e1, he⟩ := obind he
      refine q1 _ _ _ _ _ _ ra _ hI (fun c => hv (by simp [anyC, c])) e1 fun H1 hI1 => ?_
      obtain ⟨b, ρ0⟩ := ra
      cases b with
      | false => exact iteF (q2 _ _ _ _ _ _ r _ hI1 (fun c => hv (by simp only [anyC, Bool.or_eq_true] at c ⊢; exact .inr c)) he q)
      | true => cases he; exact iteT (q _ hI1)
theorem st_and {es : List E} {ps : List Expr} {pos : Pos} (h : STs P w K mg base k N sc (denL G C es) ps) : ST P w K mg base k N sc (den G C (.andv es)) (.BoolOp .And ps pos) := fun X ok => by
  obtain ⟨t, p, q⟩ := pw_andL (pos := pos) h X ok
  exact ⟨t, p.pt, fun H0 F0 ρ σ τ H r Q hI hv he => q _ _ _ _ _ _ r _ hI (fun c => hv (by simpa only [den, tstD] using c)) (by simpa only [den, tstD] using he)⟩
theorem st_or {es : List E} {ps : List Expr} {pos : Pos} (h : STs P w K mg base k N sc (denL G C es) ps) : ST P w K mg base k N sc (den G C (.orv es)) (.BoolOp .Or ps pos) := fun X ok => by
  obtain ⟨t, p, q⟩ := pw_orL (pos := pos) h X ok
  exact ⟨t, p.pt, fun H0 F0 ρ σ τ H r Q hI hv he => q _ _ _ _ _ _ r _ hI (fun c => hv (by simpa only [den, tstD] using c)) (by simpa only [den, tstD] using he)⟩
theorem sv_ife {c a b : E} {pc pa pb : Expr} {pos : Pos} (hc : ST P w K mg base k N sc (den G C c) pc) (ha : SV P w K mg base k N sc (den G C a) pa) (hb : SV P w K mg base k N sc (den G C b) pb) : SV P w K mg base k N sc (den G C (.ife c a b)) (.IfExp pc pa pb pos) := fun X ok => by
  obtain ⟨tc, p0, q0⟩ := hc X ok
  obtain ⟨ta, p1, q1⟩ := ha X ok
  obtain ⟨tb, p2, q2⟩ := hb X ok
  refine ⟨_, pe_ifExp p0 p1 p2, fun H0 F0 ρ σ τ H r Q hI hv he q => ?_⟩
  simp only [den, tstD] at he
  obtain ⟨⟨c, ρ1⟩, e0, he⟩ := obind he
  refine q0 _ _ _ _ _ _ _ _ hI (fun c => hv (by simp [den, tstD, c])) e0 fun H1 hI1 => ?_
  cases c with
  | true =>
    obtain ⟨r0, e1, e2⟩ := obind he
    refine iteT (q1 _ _ _ _ _ _ r0 _ hI1 (fun c => hv (by simp [den, tstD, c])) e1 fun v H2 hI2 l2 => ?_)
    obtain ⟨nv, h⟩ := hI2.val e2 l2
    exact q _ _ h (nolink nv)
  | false =>
    obtain ⟨r0, e1, e2⟩ := obind he
    refine iteF (q2 _ _ _ _ _ _ r0 _ hI1 (fun c => hv (by simp [den, tstD, c])) e1 fun v H2 hI2 l2 => ?_)
    obtain ⟨nv, h⟩ := hI2.val e2 l2
    exact q _ _ h (nolink nv)
theorem sv_tup {es : List E} {ps : List Expr} {n : Nat} {pos : Pos} (h : SVs P w K mg base k N sc (denL G C es) ps) : SV P w K mg base k N sc (den G C (.tup es)) (.Tuple ps n pos) := fun X ok => by
  obtain ⟨t, p, q⟩ := pa_L h X ok
  refine ⟨_, pe_tup p, fun H0 F0 ρ σ τ H r Q hI hv he qq => ?_⟩
  simp only [den, valD] at he
  obtain ⟨x, e1, he⟩ := obind he
  split at he
  · rename_i hl
    cases he
    refine q _ _ _ _ _ _ x _ hI hv e1 fun vs H1 hI1 l1 => ⟨by omega, fun p hp => ?_⟩
    have ho : gO x.2.1 = .full ∨ gO x.2.1 = .cold := by unfold gO; split <;> simp
    have h2 := I.newTup hI1 ho hp
    have ek : kidO x.2.1 = gO x.2.1 := by
      rcases evL_own e1 with e | e <;> rw [e] <;> rfl
    rw [← ek] at h2 ho
    exact qq _ _ (I.mkR h2) (nolink (mk_view (by rcases ho with e | e <;> rw [e] <;> rfl)))
  · cases he
theorem sv_lst {es : List E} {ps : List Expr} {pos : Pos} (h : SVs P w K mg base k N sc (denL G C es) ps) : SV P w K mg base k N sc (den G C (.lst es)) (.List ps pos) := fun X ok => by
  obtain ⟨t, p, q⟩ := pa_L h X ok
  refine ⟨_, pe_lst p, fun H0 F0 ρ σ τ H r Q hI hv he qq => ?_⟩
  simp only [den, valD] at he
  obtain ⟨x, e1, he⟩ := obind he
  split at he
  · rename_i hl
    cases he
    refine q _ _ _ _ _ _ x _ hI hv e1 fun vs H1 hI1 l1 => ⟨by omega, fun p hp => ?_⟩
    refine qq _ _ (hI1.fin ?_ hp) (nolink ?_)
    · rcases evL_own e1 with e | e <;> rw [e]
      · exact .inl ⟨rfl, rfl⟩
      · exact .inr ⟨rfl, rfl⟩
    · rcases evL_own e1 with e | e <;> rw [e] <;> rfl
  · cases he
theorem atI_both {α β : Type} {xs : List α} {ys : List β} {i : Int} {x : α} (hl : xs.length = ys.length) (e : atI xs i = some x) : ∃ j : Nat, xs[j]? = some x ∧ ∀ y, ys[j]? = some y → atI ys i = some y := by
  unfold atI at e
  obtain ⟨j, e1, e2⟩ := obind e
  exact ⟨j, e2, fun y e3 => by unfold atI; rw [← hl, e1]; exact e3⟩
/-- an item of what is on top -/
theorem ix_ok {i : Int} {y : T} (h : I K H0 F0 ρ σ (g1 o t va :: τ) H) (e : ixV t (.int i) = some y) (hq : ∀ v, I K H0 F0 ρ σ (g1 (kidR o) y v :: τ) H → Q v H) : rIx K va (.int i) H Q := by
  cases t with
  | lst xs =>
    obtain ⟨a, ws, rfl, rd, hl, h2, _⟩ := h.kidsL
    obtain ⟨j, e1, e2⟩ := atI_both hl e
    obtain ⟨v, ev, h3⟩ := h2.pick e1
    exact .inl ⟨a, ws, i, v, rfl, rfl, .inl rd, e2 v ev, hq v h3⟩
  | tup xs =>
    obtain ⟨a, ws, rfl, rd, hl, h2⟩ := h.kidsT
    obtain ⟨j, e1, e2⟩ := atI_both hl e
    obtain ⟨v, ev, h3⟩ := h2.pick e1
    exact .inr (.inl ⟨a, ws, i, v, rfl, rfl, rd, e2 v ev, hq v h3⟩)
  | str s =>
    obtain ⟨rfl, a⟩ := h.isStr
    obtain ⟨c, e1, rfl⟩ := omap e
    refine .inr (.inr ⟨_, i, c, rfl, rfl, a.1, e1, hq _ ?_⟩)
    obtain ⟨j, e2, _⟩ := atI_both (ys := s) rfl e1
    have hc : c < 128 := a.2 c (List.mem_of_getElem? e2)
    have h1 : 1 ≤ sizeLine := by show 1 ≤ 2 ^ 24; decide
    exact I.nl (o := .full) (h.drop.str (x := [c]) ⟨h1, fun d m => by simp at m; subst m; exact hc⟩) rfl
  | _ => cases e
theorem sv_ix {a i : E} {pa pi : Expr} {pos : Pos} (ha : SV P w K mg base k N sc (den G C a) pa) (hi : SV P w K mg base k N sc (den G C i) pi) (hp : PlainIx pi) : SV P w K mg base k N sc (den G C (.ix a i)) (.Subscript pa pi pos) := fun X ok => by
  obtain ⟨ta, p1, q1⟩ := ha X ok
  obtain ⟨tb, p2, q2⟩ := hi X ok
  refine ⟨_, pe_ix ix_seq p1 p2 hp, fun H0 F0 ρ σ τ H r Q hI hv he q => ?_⟩
  simp only [den, valD] at he
  obtain ⟨r0, e1, he⟩ := obind he
  obtain ⟨ra, e0, he⟩ := obind he
  obtain ⟨ri, e2, he⟩ := obind he
  refine q1 _ _ _ _ _ _ r0 _ hI (fun c => hv (by simp [den, valD, c])) e1 fun v H1 hI0 l0 => ?_
  obtain ⟨hI1, l1, n1⟩ := hI0.vo e0 l0
  refine q2 _ _ _ _ _ _ ri _ hI1 (fun c => (hv (by simp [den, valD, c])).cons (n1 c)) e2 fun v2 H2 hI2 l2 => ?_
  unfold pickR at he
  obtain ⟨y, ey, he⟩ := obind he
  dsimp only at ey
  have ⟨i, ei⟩ : ∃ i, ri.t = .int i := by
    unfold ixV at ey
    split at ey
    · rename_i h; exact ⟨_, h⟩
    · rename_i h; exact ⟨_, h⟩
    · rename_i h; exact ⟨_, h⟩
    · cases ey
  rw [ei] at ey he hI2
  rw [hI2.isInt, ok.K_]
  split at he
  · rename_i n
    cases he
    exact ix_ok hI2.drop ey fun v h => q v _ (h.nl n) (nolink rfl)
  · obtain ⟨x, e3, he⟩ := obind he
    obtain ⟨z, e4, rfl⟩ := omap he
    exact ix_ok (hI2.drop.re e3 l1) e4 fun v h => q v _ h (nolink rfl)
theorem RpL.drop {c : Own} (hc : c = .cold ∨ c.isView = true) : ∀ {xs : List T} {vs : List V} (n : Nat), RpL K F H c xs vs [] → RpL K F H c (xs.drop n) (vs.drop n) []
  | _, _, 0, h => by simpa using h
  | [], [], n + 1, h => by simpa using h
  | x :: xs, v :: vs, n + 1, h => by
    simp only [RpL] at h
    obtain ⟨f1, f2, h1, h2, e⟩ := h
    have e2 := RpL.none_of hc h2
    subst e2
    simpa using RpL.drop hc n h2
  | [], _ :: _, _ + 1, h => by simp [RpL] at h
  | _ :: _, [], _ + 1, h => by simp [RpL] at h
theorem RpL.take {c : Own} (hc : c = .cold ∨ c.isView = true) : ∀ {xs : List T} {vs : List V} (n : Nat), RpL K F H c xs vs [] → RpL K F H c (xs.take n) (vs.take n) []
  | _, _, 0, h => by simp [RpL]
  | [], [], n + 1, h => by simpa using h
  | x :: xs, v :: vs, n + 1, h => by
    simp only [RpL] at h
    obtain ⟨f1, f2, h1, h2, e⟩ := h
    have e1 := Rp.none_of hc h1
    have e2 := RpL.none_of hc h2
    subst e1 e2
    simp only [List.take_succ_cons, RpL]
    exact ⟨[], [], h1, RpL.take hc n h2, rfl⟩
  | [], _ :: _, _ + 1, h => by simp [RpL] at h
  | _ :: _, [], _ + 1, h => by simp [RpL] at h
theorem RpL.rev {c : Own} (hc : c = .cold ∨ c.isView = true) : ∀ {xs : List T} {vs : List V}, RpL K F H c xs vs [] → RpL K F H c xs.reverse vs.reverse []
  | [], [], h => by simpa using h
  | x :: xs, v :: vs, h => by
    simp only [RpL] at h
    obtain ⟨f1, f2, h1, h2, e⟩ := h
    have e1 := Rp.none_of hc h1
    have e2 := RpL.none_of hc h2
    subst e1 e2
    simp only [List.reverse_cons]
    exact RpL.append (RpL.rev hc h2) (RpL.one.mpr h1)
  | [], _ :: _, h => by simp [RpL] at h
  | _ :: _, [], h => by simp [RpL] at h
/-- other items of a group: shared ones, or such without lists -/
theorem I.cutC {xs ys : List T} {ws zs : List V} (h : I K H0 F0 ρ σ (⟨.cold, xs, ws⟩ :: τ) H) (f : ∀ F o, o = .cold ∨ o.isView = true → RpL K F H o xs ws [] → RpL K F H o ys zs []) : I K H0 F0 ρ σ (⟨.cold, ys, zs⟩ :: τ) H :=
  h.map fun F fp s q => by
    have e := RpL.none_of (.inl rfl) q
    subst e
    exact ⟨[], f F _ (.inl rfl) q, List.nil_sublist _⟩
theorem I.cutN {xs ys : List T} {ws zs : List V} {c : Own} (h : I K H0 F0 ρ σ (⟨c, xs, ws⟩ :: τ) H) (n : nlL ys = true) (f : ∀ F o, o = .cold ∨ o.isView = true → RpL K F H o xs ws [] → RpL K F H o ys zs []) : I K H0 F0 ρ σ (⟨.full, ys, zs⟩ :: τ) H :=
  h.map fun F fp s q => ⟨[], RpL.allFull n (f F (.view 0) (.inr rfl) (RpL.view s 0 q)), List.nil_sublist _⟩
theorem RpL.cut {c : Own} (hc : c = .cold ∨ c.isView = true) {xs : List T} {vs : List V} (lo hi : Option Int) (h : RpL K F H c xs vs []) : RpL K F H c (cutT xs lo hi) (cutV vs lo hi) [] := by
  unfold cutT cutV
  rw [← h.len]
  exact RpL.take hc _ (RpL.drop hc _ h)
/-- an end of a slice -/
theorem po_ok {ds : List Den} {po : Option Expr} (h : SVs P w K mg base k N sc ds po.toList) : ∀ X, XOk P w K mg base k N sc X → ∃ t, PO X po t ∧ ∀ H0 F0 ρ σ τ H r Q, I K H0 F0 ρ σ τ H → (anyC ds = true → NoV τ) → evO ds ρ = some r → (∀ H', I K H0 F0 r.2 σ τ H' → Q r.1 H') → t σ H Q := by
  intro X ok
  cases po with
  | none =>
    cases h
    exact ⟨tNoPart, po_none, fun H0 F0 ρ σ τ H r Q hI hv he q => by cases he; exact q H hI⟩
  | some p =>
    cases h with
    | cons h pl t =>
      cases t
      obtain ⟨t1, p1, q1⟩ := h X ok
      refine ⟨_, po_some p1, fun H0 F0 ρ σ τ H r Q hI hv he q => ?_⟩
      simp only [evO] at he
      obtain ⟨ra, e1, he⟩ := obind he
      refine q1 _ _ _ _ _ _ ra _ hI (fun c => hv (by simp [anyC, c])) e1 fun v H1 hI1 l1 => ?_
      obtain ⟨t0, o0, ρ0⟩ := ra
      cases t0 with
      | int i => cases he; exact ⟨i, hI1.isInt, q _ hI1.drop⟩
      | _ => cases he
def rSl (K : PySem.W.Frag) : V → Option Int → Option Int → Hp → VK → Prop := fun x lo hi H Q => rSlL K x lo hi H Q ∨ rSlT K x lo hi H Q ∨ rSlS x lo hi H Q
theorem sl_any : SlR X (rSl X.K) := sl_list.or (sl_tup.or sl_str)
theorem cutS_ok (s : List Nat) (lo hi : Option Int) : cutS ⟨s.toArray⟩ lo hi = ⟨(cutT s lo hi).toArray⟩ := by
  simp [cutS, cutT, Str.length]
theorem cutT_ascii {s : List Nat} (h : Ascii s) (lo hi : Option Int) : Ascii (cutT s lo hi) := by
  unfold cutT
  refine ⟨Nat.le_trans (by simp only [List.length_take, List.length_drop]; omega) h.1, fun c m => h.2 c (List.mem_of_mem_drop (List.mem_of_mem_take m))⟩
theorem cutT_all {α : Type} {xs : List α} {lo hi : Option Int} (h : ¬ (cutT xs lo hi).length = xs.length) : ¬ (HT.sIx xs.length 0 lo = 0 ∧ HT.sIx xs.length xs.length hi = xs.length) := fun ⟨a, b⟩ => h (by
  unfold cutT
  rw [a, b]
  simp)
theorem slice_ok {lo hi : Option Int} (h : I K H0 F0 ρ σ (g1 o t va :: τ) H) (he : shareR1 (slV lo hi) t o ρ = some r) (la : ∀ i, o = .view i → σ[i]? = some (some va))
    (hq : ∀ v H', I K H0 F0 r.ρ σ (g1 r.o r.t v :: τ) H' → r.o.isView = false → Q v H') : rSl K va lo hi H Q := by
  rcases share1 h he la with ⟨y, ey, er, hn⟩ | ⟨t', ey, hz, h'⟩
  · subst er
    cases t with
    | lst xs =>
      cases ey
      obtain ⟨a, ws, rfl, rd, hl, h2, _⟩ := h.kidsL
      rcases hn with hn | ⟨ys, ez, hn⟩
      · simp [T.nl] at hn
      · cases ez
        exact .inl ⟨a, ws, rfl, .inl rd, fun p hp => hq _ _ ((I.cutN h2 hn fun F o ho => RpL.cut ho lo hi).fin (.inl ⟨rfl, rfl⟩) hp) rfl⟩
    | str s =>
      cases ey
      obtain ⟨rfl, a⟩ := h.isStr
      refine .inr (.inr ⟨_, rfl, a.1, ?_⟩)
      rw [cutS_ok]
      exact hq _ _ (h.drop.str (cutT_ascii a _ _)) rfl
    | tup xs =>
      simp only [slV] at ey
      split at ey
      · cases ey
      · rename_i hc
        cases ey
        obtain ⟨a, ws, rfl, rd, hl, h2⟩ := h.kidsT
        rcases hn with hn | ⟨ys, ez, hn⟩
        · have nc := cutT_all hc
          rw [hl] at nc
          exact .inr (.inl ⟨a, ws, rfl, rd, nc, fun p hp => hq _ _ ((I.cutN h2 (by simpa [T.nl] using hn) fun F o ho => RpL.cut ho lo hi).finT (.inl ⟨rfl, rfl⟩) hp) rfl⟩)
        · cases ez
    | _ => cases ey
  · obtain ⟨t0, o0, ρ0⟩ := r
    cases t' with
    | lst xs =>
      rcases hz with ⟨zs, e1, e2⟩ | ⟨zs, e1, e2⟩ <;> cases e1 <;> cases e2 <;> cases ey
      obtain ⟨a, ws, rfl, rd, hl, h2, _⟩ := h'.kidsL
      exact .inl ⟨a, ws, rfl, .inl rd, fun p hp => hq _ _ ((I.cutC h2 fun F o ho => RpL.cut ho lo hi).fin (.inr ⟨rfl, rfl⟩) hp) rfl⟩
    | tup xs =>
      simp only [slV] at ey
      split at ey
      · cases ey
      · rename_i hc
        rcases hz with ⟨zs, e1, e2⟩ | ⟨zs, e1, e2⟩ <;> cases e1 <;> cases e2 <;> cases ey
        obtain ⟨a, ws, rfl, rd, hl, h2⟩ := h'.kidsT
        have nc := cutT_all hc
        rw [hl] at nc
        exact .inr (.inl ⟨a, ws, rfl, rd, nc, fun p hp => hq _ _ ((I.cutC h2 fun F o ho => RpL.cut ho lo hi).finT (.inr ⟨rfl, rfl⟩) hp) rfl⟩)
    | str s =>
      cases ey
      rcases hz with ⟨zs, e1, e2⟩ | ⟨zs, e1, e2⟩ <;> cases e1
    | _ => cases ey
theorem sv_sl {a : E} {lo hi : List E} {pa : Expr} {plo phi : Option Expr} {p2 pos : Pos} (ha : SV P w K mg base k N sc (den G C a) pa) (hl : SVs P w K mg base k N sc (denL G C lo) plo.toList) (hh : SVs P w K mg base k N sc (denL G C hi) phi.toList) :
    SV P w K mg base k N sc (den G C (.sl a lo hi)) (.Subscript pa (.Slice plo phi none p2) pos) := fun X ok => by
  obtain ⟨ta, p1, q1⟩ := ha X ok
  obtain ⟨tl, pl, ql⟩ := po_ok hl X ok
  obtain ⟨th, ph, qh⟩ := po_ok hh X ok
  refine ⟨_, pe_slice sl_any p1 pl ph, fun H0 F0 ρ σ τ H r Q hI hv he q => ?_⟩
  simp only [den, valD] at he
  obtain ⟨r0, e1, he⟩ := obind he
  obtain ⟨ra, e0, he⟩ := obind he
  obtain ⟨rl, e2, he⟩ := obind he
  obtain ⟨rh, e3, he⟩ := obind he
  refine q1 _ _ _ _ _ _ r0 _ hI (fun c => hv (by simp [den, valD, c])) e1 fun v H1 hI0 l0 => ?_
  obtain ⟨hI1, l1, n1⟩ := hI0.vo e0 l0
  refine ql _ _ _ _ _ _ rl _ hI1 (fun c => (hv (by simp [den, valD, c])).cons (n1 (by simp [c]))) e2 fun H2 hI2 => ?_
  refine qh _ _ _ _ _ _ rh _ hI2 (fun c => (hv (by simp [den, valD, c])).cons (n1 (by simp [c]))) e3 fun H3 hI3 => ?_
  rw [ok.K_]
  exact slice_ok hI3 he l1 fun v H' h nv => q v H' h (nolink nv)
theorem sv_rev {a : E} {pa : Expr} {n : Nat} {p1 p2 p3 pos : Pos} (ha : SV P w K mg base k N sc (den G C a) pa) : SV P w K mg base k N sc (den G C (.rev a)) (.Subscript pa (.Slice none none (some (.UnaryOp .USub (.Constant (.int 1) n p1) p2)) p3) pos) := fun X ok => by
  obtain ⟨ta, pp, q1⟩ := ha X ok
  refine ⟨_, pe_revQ pp, fun H0 F0 ρ σ τ H r Q hI hv he q => ?_⟩
  simp only [den, valD] at he
  obtain ⟨ra, e1, he⟩ := obind he
  refine q1 _ _ _ _ _ _ ra _ hI hv e1 fun v H1 hI1 l1 => ?_
  rcases share1 hI1 he l1 with ⟨y, ey, er, hn⟩ | ⟨t', ey, hz, h'⟩
  · subst er
    obtain ⟨t0, o0, ρ0⟩ := ra
    cases t0 with
    | lst xs =>
      cases ey
      obtain ⟨a, ws, rfl, rd, hl, h2, _⟩ := hI1.kidsL
      rcases hn with hn | ⟨ys, ez, hn⟩
      · simp [T.nl] at hn
      · cases ez
        exact .inl ⟨a, ws, rfl, .inl rd, fun p hp => q _ _ ((I.cutN h2 hn fun F o ho => RpL.rev ho).fin (.inl ⟨rfl, rfl⟩) hp) (nolink rfl)⟩
    | str z =>
      cases ey
      obtain ⟨rfl, az⟩ := hI1.isStr
      exact .inr ⟨z, rfl, az.1, q _ _ (hI1.drop.str (⟨by rw [List.length_reverse]; exact az.1, fun c m => az.2 c (List.mem_reverse.mp m)⟩ : Ascii z.reverse)) (nolink rfl)⟩
    | _ => cases ey
  · obtain ⟨t0, o0, ρ0⟩ := r
    cases t' with
    | lst xs =>
      rcases hz with ⟨zs, e1, e2⟩ | ⟨zs, e1, e2⟩ <;> cases e1 <;> cases e2 <;> cases ey
      obtain ⟨a, ws, rfl, rd, hl, h2, _⟩ := h'.kidsL
      exact .inl ⟨a, ws, rfl, .inl rd, fun p hp => q _ _ ((I.cutC h2 fun F o ho => RpL.rev ho).fin (.inr ⟨rfl, rfl⟩) hp) (nolink rfl)⟩
    | str z => rcases hz with ⟨zs, e1, e2⟩ | ⟨zs, e1, e2⟩ <;> cases e1 <;> cases e2 <;> cases ey
    | _ => cases ey
end
end Ev
namespace Ev
open PySem PySem.Spec PyProof.Rows L2
def rNo : List V → Hp → VK → Prop := fun _ _ _ => False
def rLen (K : PySem.W.Frag) : List V → Hp → VK → Prop := fun xs H Q => (∃ p ys, xs = [.ref p] ∧ (SqL K H p ys ∨ SqT K H p ys) ∧ Q (.int ys.length) H) ∨ ∃ z, xs = [.str z] ∧ z.length ≤ sizeLine ∧ Q (.int z.length) H
def rAbs : List V → Hp → VK → Prop := fun xs H Q => ∃ i, xs = [.int i] ∧ Q (.int (if i < 0 then -i else i)) H
def rInt : List V → Hp → VK → Prop := fun xs H Q => (∃ i, xs = [.int i] ∧ Q (.int i) H) ∨ ∃ k, xs = [.bl k] ∧ Q (.int (if k then 1 else 0)) H
def rBool : List V → Hp → VK → Prop := fun xs H Q => (∃ i, xs = [.int i] ∧ Q (.bl (i != 0)) H) ∨ ∃ k, xs = [.bl k] ∧ Q (.bl k) H
def rListOf (K : PySem.W.Frag) : List V → Hp → VK → Prop := fun xs H Q => ∃ p ys, xs = [.ref p] ∧ (SqL K H p ys ∨ SqT K H p ys) ∧ ∀ l, H l = none → Q (.ref l) (upd H l (.lst ys))
def rTupOf (K : PySem.W.Frag) : List V → Hp → VK → Prop := fun xs H Q => ∃ p ys, xs = [.ref p] ∧ ((SqL K H p ys ∧ ∀ l, H l = none → Q (.ref l) (upd H l (.tup ys))) ∨ (SqT K H p ys ∧ Q (.ref p) H))
def rMax2 : List V → Hp → VK → Prop := fun xs H Q => ∃ i j, xs = [.int i, .int j] ∧ Q (.int (if j > i then j else i)) H
def rMin2 : List V → Hp → VK → Prop := fun xs H Q => ∃ i j, xs = [.int i, .int j] ∧ Q (.int (if j < i then j else i)) H
def rOrd : List V → Hp → VK → Prop := fun xs H Q => ∃ x, xs = [.str x] ∧ x.length = 1 ∧ Q (.int (x.cps.getD 0 0 : Nat)) H
mutual
theorem pyOf_nd : ∀ t : T, (pyOf t).hasDict = false
  | .non => rfl
  | .bl _ => rfl
  | .int _ => rfl
  | .str _ => rfl
  | .tup xs => pyOfL_nd xs
  | .lst xs => pyOfL_nd xs
  | .dct _ _ => rfl
  | .obj _ _ _ => rfl
theorem pyOfL_nd : ∀ xs : List T, PyData.hasDictAll (pyOfL xs) = false
  | [] => rfl
  | x :: xs => by
    show ((pyOf x).hasDict || PyData.hasDictAll (pyOfL xs)) = false
    rw [pyOf_nd x, pyOfL_nd xs]; rfl
end
section
variable {K : PySem.W.Frag} {F H : Hp}
theorem lstAt_rd {a : Addr} {vs : List V} {hd : List Addr} (s : Same F H) : ∀ {o : Own}, LstAt K F H o a vs hd → Rd H a (.lst vs)
  | .view _, h => h.1
  | .cold, h => Same.rd s h.1
  | .shal, h => .inl h.1
  | .full, h => .inl h.1
  | .flds _, h => h.elim
end
section
variable {X : Cx} {pins : List (Addr × Obj)} {σ : L2.St} {F H : Hp} {s : Shared}
mutual
theorem reads_of (I : Inv X pins σ H s) (sm : Same F H) : ∀ {t : T} {o : Own} {v : V} {fp : List Addr} {u : Value}, Rp X.K F H o t v fp → RelV v u → ∃ as, Reads s.heap u (pyOf t) as
  | .non, o, v, fp, u, h, r => by
    simp only [Rp] at h
    obtain ⟨rfl, _⟩ := h
    cases r; exact ⟨_, .none⟩
  | .bl b, o, v, fp, u, h, r => by
    simp only [Rp] at h
    obtain ⟨rfl, _⟩ := h
    cases r; exact ⟨_, .bool b⟩
  | .int i, o, v, fp, u, h, r => by
    simp only [Rp] at h
    obtain ⟨rfl, _⟩ := h
    obtain ⟨t, rfl⟩ := r; exact ⟨_, .int i t⟩
  | .str x, o, v, fp, u, h, r => by
    simp only [Rp] at h
    obtain ⟨rfl, _⟩ := h
    obtain ⟨t, rfl⟩ := r; exact ⟨_, .str _ t⟩
  | .tup xs, o, v, fp, u, h, r => by
    simp only [Rp] at h
    obtain ⟨a, vs, rfl, q, hk⟩ := h
    cases r
    obtain ⟨its, rv, ⟨ob, e, c, n, d⟩, _⟩ := I.tuple q
    obtain ⟨as, ra⟩ := readsL_of I sm hk rv
    exact ⟨_, .tuple e c d (by simpa using ra)⟩
  | .lst xs, o, v, fp, u, h, r => by
    simp only [Rp] at h
    obtain ⟨a, vs, hd, fp', rfl, q, hk, _⟩ := h
    cases r
    obtain ⟨its, rv, p, _⟩ := I.list (.inl (lstAt_rd sm q))
    obtain ⟨ob, n, e, c, _, d⟩ := p
    obtain ⟨as, ra⟩ := readsL_of I sm hk rv
    exact ⟨_, .list e c d (by simpa using ra)⟩
  | .dct _ _, o, v, fp, u, h, r => by simp only [Rp] at h
  | .obj _ _ _, o, v, fp, u, h, r => by simp only [Rp] at h
theorem readsL_of (I : Inv X pins σ H s) (sm : Same F H) : ∀ {ts : List T} {o : Own} {vs : List V} {fp : List Addr} {us : List Value}, RpL X.K F H o ts vs fp → Vals vs us → ∃ as, ReadsAll s.heap us (pyOfL ts) as
  | [], o, [], fp, us, h, r => by cases r; exact ⟨_, .nil⟩
  | t :: ts, o, v :: vs, fp, us, h, r => by
    simp only [RpL] at h
    obtain ⟨f1, f2, h1, h2, _⟩ := h
    cases r with
    | cons r rr =>
      obtain ⟨as, q⟩ := reads_of I sm h1 r
      obtain ⟨bs, q2⟩ := readsL_of I sm h2 rr
      exact ⟨_, .cons q q2⟩
  | [], o, _ :: _, fp, us, h, r => by simp only [RpL] at h
  | _ :: _, o, [], fp, us, h, r => by simp only [RpL] at h
end
def rRepr (K : PySem.W.Frag) : List V → Hp → VK → Prop := fun xs H Q => ∃ v t F o fp x a, xs = [v] ∧ v = .ref a ∧ Same F H ∧ Rp K F H o t v fp ∧ reprD (pyOf t) = some x ∧ Q (.str ⟨x.toArray⟩) H
theorem cr_repr {k : Nat} (hg : X.A.guards = some []) (hr : Room k X.A) : CallR X (.builtin "repr") (rRepr X.K) := by
  intro pins s σ H xs us Q I hv hq
  obtain ⟨v, t, F, o, fp, x, a, rfl, rfl, sm, hp, hs, q⟩ := hq
  cases hv with
  | cons r rr =>
    cases rr
    obtain ⟨as, rd⟩ := reads_of I sm hp r
    cases r
    unfold reprD at hs
    split at hs
    · rename_i hc
      simp only [Bool.and_eq_true, decide_eq_true_eq] at hc
      cases hs
      refine repr_of_reads' rd hc.1.1.1 (fun z => ?_) hg ?_ (fun _ _ e => e) (fun h' u tk hk => ?_) (hsz := hc.1.2)
      · rw [pyOf_nd] at z; cases z
      · have := hr.un
        omega
      · exact ⟨.str (pyOf t).shown, H, I.kept (t' := tk) hk, ⟨u, rfl⟩, by simpa using q⟩
    · cases hs
end
def rF (K : PySem.W.Frag) : BF → List V → Hp → VK → Prop
  | .len => rLen K | .abs => rAbs | .int => rInt | .bool => rBool | .str => rNo | .list => rListOf K | .tuple => rTupOf K
  | .sum => rSum K | .any => rAny K | .all => rAll K | .gcd => rGcd | .max2 => rMax2 | .min2 => rMin2 | .max => rMax K | .min => rMin K | .sorted => rSortedI K | .ord => rOrd | .chr => rNo | .repr => rRepr K
section
variable {P : Program} {w : World} {K : PySem.W.Frag} {mg : Str → Option Value} {base : Heap} {k : Nat} {N : List Str} {sc : Scope} {U : BF → Bool} {G : List Nat → Option T} {C : List Nat → List T → Option (T × Own)}
variable {X : Cx} {H0 F0 H H' F : Hp} {ρ ρ' : Env} {σ : L2.St} {τ : List Gp} {t u y : T} {o q : Own} {va vb v : V} {r : R} {Q : VK}
theorem SVs.head {ds : List Den} {p : Expr} {ps : List Expr} (h : SVs P w K mg base k N sc ds (p :: ps)) : Plain p ∧ ∃ ds', SVs P w K mg base k N sc ds' ps := by
  cases h with
  | cons _ pl t => exact ⟨pl, _, t⟩
theorem starNo {ds : List Den} {ps : List Expr} (h : SVs P w K mg base k N sc ds ps) (env : PySem.Env) (pos : Pos) : (backTo pos (starEach ps env)).any (·.1) = false := by
  induction h with
  | nil => rfl
  | cons _ pl _ ih =>
    rw [pl.star]
    simp only [backTo, List.map_cons, List.any_cons, Bool.false_or]
    exact ih
theorem call_no {f : Value} : CallR X f rNo := fun _ _ _ _ _ _ _ _ _ h => h.elim
theorem pe_blt {f : BF} {p0 : Pos} {p : Expr} {ps : List Expr} {pos : Pos} {ta : TA} (M : MOk K mg U G) (ok : XOk P w K mg base k N sc X) (hu : U f = true) (hrp : f = .repr → topN N = true) (hg : sc.names.lookup f.nm = some .globalImplicit) (hd : (f.nm == ("__debug__" : Str)) = false) (hn : f.nm ≠ "__name__")
    (ha : PA X (p :: ps) ta) (he : starEach (p :: ps) X.env = (false, eval p X.env) :: starEach ps X.env) (hpl : (backTo pos (starEach ps X.env)).any (·.1) = false) :
    PE X (.Call (.Name f.nm p0) (p :: ps) [] pos) (tCB (rF K f) ta) := by
  have hg' : Gl X f.nm := ok.gl hg
  have no : f ≠ .gcd → X.mg f.nm = none := fun h => by rw [ok.mg_]; exact M.blt f hu h
  have eK := ok.K_
  subst eK
  cases f with
  | len => exact pe_callB (call_len_seq.or call_len_str) hg' (no (by simp)) (by decide +kernel) ha hn hd he hpl
  | abs => exact pe_callB call_abs hg' (no (by simp)) (by decide +kernel) ha hn hd he hpl
  | int => exact pe_callTy call_int1 hg' (no (by simp)) (by decide +kernel) ha hn hd he hpl
  | bool => exact pe_callTy call_bool1 hg' (no (by simp)) (by decide +kernel) ha hn hd he hpl
  | str => exact pe_callTy (T := "str") call_no hg' (no (by simp)) (by decide +kernel) ha hn hd he hpl
  | list => exact pe_callTy call_list_of hg' (no (by simp)) (by decide +kernel) ha hn hd he hpl
  | tuple => exact pe_callTy call_tuple_of hg' (no (by simp)) (by decide +kernel) ha hn hd he hpl
  | sum => exact pe_callB (cr_sum ok.calm) hg' (no (by simp)) (by decide +kernel) ha hn hd he hpl
  | any => exact pe_callB (cr_any ok.calm) hg' (no (by simp)) (by decide +kernel) ha hn hd he hpl
  | all => exact pe_callB (cr_all ok.calm) hg' (no (by simp)) (by decide +kernel) ha hn hd he hpl
  | gcd => exact pe_callBfun cr_gcd hg' (by rw [ok.mg_]; exact M.gcd hu) ha hd he hpl
  | max2 => exact pe_callB (call_max2 ok.calm) hg' (no (by simp)) (by decide +kernel) ha hn hd he hpl
  | min2 => exact pe_callB (call_min2 ok.calm) hg' (no (by simp)) (by decide +kernel) ha hn hd he hpl
  | max => exact pe_callB (cr_max ok.calm) hg' (no (by simp)) (by decide +kernel) ha hn hd he hpl
  | min => exact pe_callB (cr_min ok.calm) hg' (no (by simp)) (by decide +kernel) ha hn hd he hpl
  | sorted => exact pe_callB cr_sortedI hg' (no (by simp)) (by decide +kernel) ha hn hd he hpl
  | ord => exact pe_callB call_ord hg' (no (by simp)) (by decide +kernel) ha hn hd he hpl
  | chr => exact pe_callB (id := "chr") call_no hg' (no (by simp)) (by decide +kernel) ha hn hd he hpl
  | repr => exact pe_callB (cr_repr (ok.gd (hrp rfl)) ok.room) hg' (no (by simp)) (by decide +kernel) ha hn hd he hpl
theorem I.unstk : ∀ {ts : List T} {os : List Own} {vs : List V} {τ : List Gp}, I K H0 F0 ρ σ (stk ts os vs τ) H → I K H0 F0 ρ σ τ H
  | t :: ts, o :: os, v :: vs, τ, h => (I.unstk (ts := ts) (os := os) (vs := vs) h).drop
  | [], _, _, _, h => h
  | _ :: _, [], _, _, h => h
  | _ :: _, _ :: _, [], _, h => h
theorem ints_of : ∀ {xs : List T} {ws : List V} {o : Own} {fp : List Addr} {ns : List Int}, RpL K F H o xs ws fp → intsV xs = some ns → ws = ns.map V.int
  | [], [], _, _, _, _, e => by cases e; rfl
  | x :: xs, w :: ws, o, fp, ns, h, e => by
    simp only [RpL] at h
    obtain ⟨f1, f2, h1, h2, _⟩ := h
    cases x with
    | int i =>
      obtain ⟨ms, e', rfl⟩ := omap e
      simp only [Rp] at h1
      rw [h1.1, ints_of h2 e']
      rfl
    | _ => cases e
  | [], _ :: _, _, _, _, h, _ => by simp [RpL] at h
  | _ :: _, [], _, _, _, h, _ => by simp [RpL] at h
theorem bls_of : ∀ {xs : List T} {ws : List V} {o : Own} {fp : List Addr} {ns : List Bool}, RpL K F H o xs ws fp → blsV xs = some ns → ws = ns.map V.bl
  | [], [], _, _, _, _, e => by cases e; rfl
  | x :: xs, w :: ws, o, fp, ns, h, e => by
    simp only [RpL] at h
    obtain ⟨f1, f2, h1, h2, _⟩ := h
    cases x with
    | bl i =>
      obtain ⟨ms, e', rfl⟩ := omap e
      simp only [Rp] at h1
      rw [h1.1, bls_of h2 e']
      rfl
    | _ => cases e
  | [], _ :: _, _, _, _, h, _ => by simp [RpL] at h
  | _ :: _, [], _, _, _, h, _ => by simp [RpL] at h
theorem I.intsL {xs : List T} {ns : List Int} (h : I K H0 F0 ρ σ (g1 o (.lst xs) v :: τ) H) (e : intsV xs = some ns) : ∃ a, v = .ref a ∧ SqL K H a (ns.map V.int) := by
  obtain ⟨a, ws, rfl, rd, hl, h2, _⟩ := h.kidsL
  obtain ⟨F, fp, s, r⟩ := h2.see
  exact ⟨a, rfl, by rw [← ints_of r e]; exact .inl rd⟩
theorem I.blsL {xs : List T} {ns : List Bool} (h : I K H0 F0 ρ σ (g1 o (.lst xs) v :: τ) H) (e : blsV xs = some ns) : ∃ a, v = .ref a ∧ SqL K H a (ns.map V.bl) := by
  obtain ⟨a, ws, rfl, rd, hl, h2, _⟩ := h.kidsL
  obtain ⟨F, fp, s, r⟩ := h2.see
  exact ⟨a, rfl, by rw [← bls_of r e]; exact .inl rd⟩
theorem maxL_ok : ∀ {ns : List Int} {m : Int}, ns ≠ [] → m ∈ ns → (∀ y, y ∈ ns → y ≤ m) → m = maxL ns
  | [x], m, _, hm, _ => by simpa [maxL] using hm
  | x :: y :: r, m, _, hm, hu => by
    have hx : maxL (y :: r) ∈ (y :: r) ∧ ∀ z ∈ (y :: r), z ≤ maxL (y :: r) := maxL_is (by simp)
    simp only [maxL]
    have h1 := hu x (by simp)
    have h2 := hu _ (List.mem_cons_of_mem x hx.1)
    rcases List.mem_cons.mp hm with rfl | hm
    · split
      · rfl
      · omega
    · have h3 := hx.2 m hm
      split <;> omega
where maxL_is : ∀ {ns : List Int}, ns ≠ [] → maxL ns ∈ ns ∧ ∀ z ∈ ns, z ≤ maxL ns
  | [x], _ => by simp [maxL]
  | x :: y :: r, _ => by
    have hx := maxL_is (ns := y :: r) (by simp)
    have e : maxL (x :: y :: r) = if maxL (y :: r) < x then x else maxL (y :: r) := by simp [maxL]
    rw [e]
    refine ⟨?_, fun z hz => ?_⟩
    · split
      · simp
      · exact List.mem_cons_of_mem _ hx.1
    · rcases List.mem_cons.mp hz with rfl | hz
      · split <;> omega
      · have := hx.2 z hz
        split <;> omega
theorem minL_ok : ∀ {ns : List Int} {m : Int}, ns ≠ [] → m ∈ ns → (∀ y, y ∈ ns → m ≤ y) → m = minL ns
  | [x], m, _, hm, _ => by simpa [minL] using hm
  | x :: y :: r, m, _, hm, hu => by
    have hx : minL (y :: r) ∈ (y :: r) ∧ ∀ z ∈ (y :: r), minL (y :: r) ≤ z := minL_is (by simp)
    simp only [minL]
    have h1 := hu x (by simp)
    have h2 := hu _ (List.mem_cons_of_mem x hx.1)
    rcases List.mem_cons.mp hm with rfl | hm
    · split
      · rfl
      · omega
    · have h3 := hx.2 m hm
      split <;> omega
where minL_is : ∀ {ns : List Int}, ns ≠ [] → minL ns ∈ ns ∧ ∀ z ∈ ns, minL ns ≤ z
  | [x], _ => by simp [minL]
  | x :: y :: r, _ => by
    have hx := minL_is (ns := y :: r) (by simp)
    have e : minL (x :: y :: r) = if x < minL (y :: r) then x else minL (y :: r) := by simp [minL]
    rw [e]
    refine ⟨?_, fun z hz => ?_⟩
    · split
      · simp
      · exact List.mem_cons_of_mem _ hx.1
    · rcases List.mem_cons.mp hz with rfl | hz
      · split <;> omega
      · have := hx.2 z hz
        split <;> omega
/-- a built-in's answer that is a number or a truth value -/
theorem blt_atom {f : BF} {ts : List T} {os : List Own} {vs : List V} (h : I K H0 F0 ρ σ (stk ts os vs τ) H) (lk : LkL σ os vs) (hl : ts.length = os.length) (hf : f ≠ .list ∧ f ≠ .tuple ∧ f ≠ .sorted) (e : bltV f ts = some y)
    (hq : ∀ v, I K H0 F0 ρ σ (g1 .full y v :: τ) H → Q v H) : rF K f vs H Q := by
  have h0 : I K H0 F0 ρ σ τ H := h.unstk
  have qI : ∀ i, y = .int i → Q (.int i) H := fun i ey => by subst ey; exact hq _ (h0.int i)
  have qB : ∀ i, y = .bl i → Q (.bl i) H := fun i ey => by subst ey; exact hq _ (h0.bl i)
  have one : ∀ t, ts = [t] → ∃ o v, os = [o] ∧ vs = [v] ∧ I K H0 F0 ρ σ (g1 o t v :: τ) H := fun t et => by
    subst et
    cases os with
    | nil => simp at hl
    | cons o os =>
      cases os with
      | cons _ _ => simp at hl
      | nil =>
        cases vs with
        | nil => exact lk.elim
        | cons v vs =>
          cases vs with
          | cons _ _ => exact lk.2.elim
          | nil => exact ⟨o, v, rfl, rfl, h⟩
  have two : ∀ t u, ts = [t, u] → ∃ o q v x, vs = [v, x] ∧ I K H0 F0 ρ σ (g1 q u x :: g1 o t v :: τ) H := fun t u et => by
    subst et
    match os, vs, hl, lk, h with
    | [o, q], [v, x], _, _, h => exact ⟨o, q, v, x, rfl, h⟩
    | [_, _], [], _, lk, _ => exact lk.elim
    | [_, _], [_], _, lk, _ => exact lk.2.elim
    | [_, _], _ :: _ :: _ :: _, _, lk, _ => exact lk.2.2.elim
    | [], _, hl, _, _ => simp at hl
    | [_], _, hl, _, _ => simp at hl
    | _ :: _ :: _ :: _, _, hl, _, _ => simp at hl
  unfold bltV at e
  split at e
  · cases e
    obtain ⟨o, v, rfl, rfl, h⟩ := one _ rfl
    obtain ⟨a, ws, rfl, rd, hl, h2, _⟩ := h.kidsL
    exact .inl ⟨a, ws, rfl, .inl (.inl rd), by rw [← hl]; exact qI _ rfl⟩
  · cases e
    obtain ⟨o, v, rfl, rfl, h⟩ := one _ rfl
    obtain ⟨a, ws, rfl, rd, hl, h2⟩ := h.kidsT
    exact .inl ⟨a, ws, rfl, .inr rd, by rw [← hl]; exact qI _ rfl⟩
  · cases e
    obtain ⟨o, v, rfl, rfl, h⟩ := one _ rfl
    obtain ⟨rfl, a⟩ := h.isStr
    exact .inr ⟨_, rfl, a.1, qI _ rfl⟩
  · cases e
    obtain ⟨o, v, rfl, rfl, h⟩ := one _ rfl
    exact ⟨_, by rw [h.isInt], qI _ rfl⟩
  · cases e
    obtain ⟨o, v, rfl, rfl, h⟩ := one _ rfl
    exact .inl ⟨_, by rw [h.isInt], qI _ rfl⟩
  · cases e
    obtain ⟨o, v, rfl, rfl, h⟩ := one _ rfl
    exact .inr ⟨_, by rw [h.isBl], qI _ rfl⟩
  · cases e
    obtain ⟨o, v, rfl, rfl, h⟩ := one _ rfl
    exact .inl ⟨_, by rw [h.isInt], qB _ rfl⟩
  · cases e
    obtain ⟨o, v, rfl, rfl, h⟩ := one _ rfl
    exact .inr ⟨_, by rw [h.isBl], qB _ rfl⟩
  · exact absurd rfl hf.1
  · exact absurd rfl hf.1
  · exact absurd rfl hf.2.1
  · obtain ⟨ns, e1, rfl⟩ := omap e
    obtain ⟨o, v, rfl, rfl, h⟩ := one _ rfl
    obtain ⟨a, rfl, r⟩ := h.intsL e1
    exact ⟨a, ns, rfl, r, qI _ rfl⟩
  · obtain ⟨ns, e1, rfl⟩ := omap e
    obtain ⟨o, v, rfl, rfl, h⟩ := one _ rfl
    obtain ⟨a, rfl, r⟩ := h.blsL e1
    exact ⟨a, ns, rfl, r, qB _ rfl⟩
  · obtain ⟨ns, e1, rfl⟩ := omap e
    obtain ⟨o, v, rfl, rfl, h⟩ := one _ rfl
    obtain ⟨a, rfl, r⟩ := h.blsL e1
    exact ⟨a, ns, rfl, r, qB _ rfl⟩
  · rename_i i j
    cases e
    obtain ⟨o, q, v, x, rfl, hh⟩ := two _ _ rfl
    have e1 := hh.isInt
    have e2 := hh.drop.isInt
    exact ⟨i, j, by rw [e1, e2], qI _ rfl⟩
  · rename_i i j
    cases e
    obtain ⟨o, q, v, x, rfl, hh⟩ := two _ _ rfl
    have e1 := hh.isInt
    have e2 := hh.drop.isInt
    exact ⟨i, j, by rw [e1, e2], qI _ rfl⟩
  · rename_i i j
    cases e
    obtain ⟨o, q, v, x, rfl, hh⟩ := two _ _ rfl
    have e1 := hh.isInt
    have e2 := hh.drop.isInt
    exact ⟨i, j, by rw [e1, e2], qI _ rfl⟩
  · obtain ⟨ns, e1, e⟩ := obind e
    split at e
    · cases e
    · rename_i hn
      cases e
      obtain ⟨o, v, rfl, rfl, h⟩ := one _ rfl
      obtain ⟨a, rfl, r⟩ := h.intsL e1
      have nn : ns ≠ [] := fun z => hn (by rw [z]; rfl)
      exact ⟨a, ns, rfl, r, by omega, fun m hm hu => by rw [maxL_ok nn hm hu]; exact qI _ rfl⟩
  · obtain ⟨ns, e1, e⟩ := obind e
    split at e
    · cases e
    · rename_i hn
      cases e
      obtain ⟨o, v, rfl, rfl, h⟩ := one _ rfl
      obtain ⟨a, rfl, r⟩ := h.intsL e1
      have nn : ns ≠ [] := fun z => hn (by rw [z]; rfl)
      exact ⟨a, ns, rfl, r, by omega, fun m hm hu => by rw [minL_ok nn hm hu]; exact qI _ rfl⟩
  · exact absurd rfl hf.2.2
  · cases e
    obtain ⟨o, v, rfl, rfl, h⟩ := one _ rfl
    obtain ⟨rfl, a⟩ := h.isStr
    exact ⟨_, rfl, rfl, qI _ rfl⟩
  · rename_i t
    obtain ⟨x, e1, rfl⟩ := omap e
    obtain ⟨o, v, rfl, rfl, h⟩ := one _ rfl
    obtain ⟨F, fp, s, r, _⟩ := h.top
    have r := RpL.one.mp r
    have key : ∀ a, v = .ref a → reprD (pyOf t) = some x → rF K .repr [v] H Q := fun a ev ex => by
      have hx := ex
      unfold reprD at hx
      split at hx
      · rename_i hc
        simp only [Bool.and_eq_true, decide_eq_true_eq] at hc
        have ha := List.all_eq_true.mp hc.2
        cases hx
        exact ⟨v, t, F, o, fp, _, a, rfl, ev, s, r, ex, hq _ (h0.str ⟨by rw [Array.length_toList]; exact hc.1.2, fun c m => by simpa using ha c m⟩)⟩
      · cases hx
    cases t with
    | tup xs =>
      have r' := r
      simp only [Rp] at r'
      obtain ⟨a, vs, ev, _⟩ := r'
      exact key a ev e1
    | lst xs =>
      have r' := r
      simp only [Rp] at r'
      obtain ⟨a, vs, hd, fp', ev, _⟩ := r'
      exact key a ev e1
    | _ => cases e1
  · cases e
theorem sort_eq {ns ns' : List Int} (p : ns'.Perm ns) (h : ns'.Pairwise (· ≤ ·)) : ns' = ns.mergeSort fun a b => decide (a ≤ b) := by
  have h2 : (ns.mergeSort fun a b => decide (a ≤ b)).Pairwise fun a b => decide (a ≤ b) = true := List.pairwise_mergeSort (fun a b c h1 h2 => by simp at h1 h2 ⊢; omega) (fun a b => by simp; omega) ns
  refine List.Perm.eq_of_pairwise (le := fun a b : Int => a ≤ b) (fun a b _ _ h1 h2 => by omega) h (h2.imp (fun h => by simpa using h)) (p.trans (List.mergeSort_perm ns _).symm)
theorem rp_intsL {F H : Hp} {o : Own} : ∀ ns : List Int, RpL K F H o (ns.map T.int) (ns.map V.int) []
  | [] => rfl
  | n :: ns => ⟨[], [], by simp [Rp], rp_intsL ns, rfl⟩
theorem blt_share {f : BF} (hf : f = .list ∨ f = .tuple ∨ f = .sorted) (h : I K H0 F0 ρ σ (g1 o t va :: τ) H) (he : shareR1 (fun x => bltV f [x]) t o ρ = some r) (la : ∀ i, o = .view i → σ[i]? = some (some va))
    (hq : ∀ v H', I K H0 F0 r.ρ σ (g1 r.o r.t v :: τ) H' → r.o.isView = false → Q v H') : rF K f [va] H Q := by
  rcases share1 h he la with ⟨y, ey, er, hn⟩ | ⟨t', ey, hz, h'⟩
  · subst er
    rcases hf with rfl | rfl | rfl
    rotate_left 2
    · cases t with
      | lst xs =>
        simp only [bltV] at ey
        obtain ⟨ns, e1, rfl⟩ := omap ey
        obtain ⟨a, rfl, sq⟩ := h.intsL e1
        exact ⟨a, ns, rfl, sq, fun ns' p hp hw hf => hq _ _ (by
          rw [sort_eq hp hw]
          exact (h.drop.push (o := .full) fun F s => rp_intsL _).fin (.inl ⟨rfl, rfl⟩) hf) rfl⟩
      | _ => simp [bltV] at ey
    · cases t with
      | lst xs =>
        cases ey
        obtain ⟨a, ws, rfl, rd, hl, h2, _⟩ := h.kidsL
        rcases hn with hn | ⟨ys, ez, hn⟩
        · simp [T.nl] at hn
        · cases ez
          exact ⟨a, ws, rfl, .inl (.inl rd), fun p hp => hq _ _ ((I.nlG (o' := .full) h2 hn).fin (.inl ⟨rfl, rfl⟩) hp) rfl⟩
      | tup xs =>
        cases ey
        obtain ⟨a, ws, rfl, rd, hl, h2⟩ := h.kidsT
        rcases hn with hn | ⟨ys, ez, hn⟩
        · simp [T.nl] at hn
        · cases ez
          exact ⟨a, ws, rfl, .inr rd, fun p hp => hq _ _ ((I.nlG (o' := .full) h2 hn).fin (.inl ⟨rfl, rfl⟩) hp) rfl⟩
      | _ => cases ey
    · cases t with
      | lst xs =>
        cases ey
        obtain ⟨a, ws, rfl, rd, hl, h2, _⟩ := h.kidsL
        rcases hn with hn | ⟨ys, ez, hn⟩
        · exact ⟨a, ws, rfl, .inl ⟨.inl rd, fun p hp => hq _ _ ((I.nlG (o' := .full) h2 (by simpa [T.nl] using hn)).finT (.inl ⟨rfl, rfl⟩) hp) rfl⟩⟩
        · cases ez
      | _ => cases ey
  · obtain ⟨t0, o0, ρ0⟩ := r
    rcases hf with rfl | rfl | rfl
    rotate_left 2
    · cases t' with
      | lst xs =>
        simp only [bltV] at ey
        obtain ⟨ns, e1, e2⟩ := omap ey
        rcases hz with ⟨zs, e3, e4⟩ | ⟨zs, e3, e4⟩
        · dsimp only at e3 e4 e2
          subst e4
          rw [e3] at e2
          cases e2
          subst e3
          obtain ⟨a, rfl, sq⟩ := h'.intsL e1
          exact ⟨a, ns, rfl, sq, fun ns' p hp hw hf => hq _ _ (by
            rw [sort_eq hp hw]
            exact (h'.drop.push (o := .cold) fun F s => rp_intsL _).fin (.inr ⟨rfl, rfl⟩) hf) rfl⟩
        · dsimp only at e3 e2
          rw [e3] at e2
          cases e2
      | _ => simp [bltV] at ey
    · cases t' with
      | lst xs =>
        rcases hz with ⟨zs, e1, e2⟩ | ⟨zs, e1, e2⟩ <;> cases e1 <;> cases e2 <;> cases ey
        obtain ⟨a, ws, rfl, rd, hl, h2, _⟩ := h'.kidsL
        exact ⟨a, ws, rfl, .inl (.inl rd), fun p hp => hq _ _ (I.fin h2 (.inr ⟨rfl, rfl⟩) hp) rfl⟩
      | tup xs =>
        rcases hz with ⟨zs, e1, e2⟩ | ⟨zs, e1, e2⟩ <;> cases e1 <;> cases e2 <;> cases ey
        obtain ⟨a, ws, rfl, rd, hl, h2⟩ := h'.kidsT
        exact ⟨a, ws, rfl, .inr rd, fun p hp => hq _ _ (I.fin h2 (.inr ⟨rfl, rfl⟩) hp) rfl⟩
      | _ => cases ey
    · cases t' with
      | lst xs =>
        rcases hz with ⟨zs, e1, e2⟩ | ⟨zs, e1, e2⟩ <;> cases e1 <;> cases e2 <;> cases ey
        obtain ⟨a, ws, rfl, rd, hl, h2, _⟩ := h'.kidsL
        exact ⟨a, ws, rfl, .inl ⟨.inl rd, fun p hp => hq _ _ (I.finT h2 (.inr ⟨rfl, rfl⟩) hp) rfl⟩⟩
      | _ => cases ey
theorem evV_len : ∀ {ds : List Den} {ρ : Env} {x : List T × List Own × Env}, evV ds ρ = some x → x.1.length = x.2.1.length
  | [], _, _, e => by cases e; rfl
  | d :: ds, ρ, x, e => by
    simp only [evV] at e
    obtain ⟨r0, _, e⟩ := obind e
    obtain ⟨r, _, e⟩ := obind e
    obtain ⟨y, e2, rfl⟩ := omap e
    simp [evV_len e2]
theorem bltV_nl {f : BF} {ts : List T} (hf : f ≠ .list ∧ f ≠ .tuple ∧ f ≠ .sorted) (e : bltV f ts = some y) : y.nl = true := by
  unfold bltV at e
  split at e <;> first
    | (cases e <;> rfl)
    | (exact absurd rfl hf.1)
    | (exact absurd rfl hf.2.1)
    | (exact absurd rfl hf.2.2)
    | (obtain ⟨_, _, rfl⟩ := omap e; rfl)
    | (obtain ⟨_, _, e⟩ := obind e; split at e <;> cases e; rfl)
theorem shareB_nl {g : List T → Option T} {ts : List T} {os : List Own} (hn : ∀ y, g ts = some y → y.nl = true) (he : shareB g ts os ρ = some r) : ∃ y, g ts = some y ∧ r = ⟨y, .full, ρ⟩ := by
  match ts, os, hn, he with
  | [t], [o], hn, he =>
    simp only [shareB, shareR1] at he
    obtain ⟨y, ey, he⟩ := obind he
    rw [if_pos (hn y ey)] at he
    cases he
    exact ⟨y, ey, rfl⟩
  | [], os, hn, he =>
    simp only [shareB] at he
    obtain ⟨y, ey, he⟩ := obind he
    rw [if_pos (hn y ey)] at he
    cases he
    exact ⟨y, ey, rfl⟩
  | [t], [], hn, he =>
    simp only [shareB] at he
    obtain ⟨y, ey, he⟩ := obind he
    rw [if_pos (hn y ey)] at he
    cases he
    exact ⟨y, ey, rfl⟩
  | [t], _ :: _ :: _, hn, he =>
    simp only [shareB] at he
    obtain ⟨y, ey, he⟩ := obind he
    rw [if_pos (hn y ey)] at he
    cases he
    exact ⟨y, ey, rfl⟩
  | _ :: _ :: _, os, hn, he =>
    simp only [shareB] at he
    obtain ⟨y, ey, he⟩ := obind he
    rw [if_pos (hn y ey)] at he
    cases he
    exact ⟨y, ey, rfl⟩
theorem sv_blt {f : BF} {es : List E} {p0 : Pos} {p : Expr} {ps : List Expr} {x : Str} {pos : Pos} (M : MOk K mg U G) (hu : U f = true) (hrp : f = .repr → topN N = true) (hg : gnB sc f.nm x = true) (h : SVs P w K mg base k N sc (denL G C es) (p :: ps)) :
    SV P w K mg base k N sc (den G C (.blt f es)) (.Call (.Name x p0) (p :: ps) [] pos) := fun X ok => by
  obtain ⟨rfl, g1', g2, g3⟩ := gnOf hg
  obtain ⟨t, pa, q⟩ := pa_V h X ok
  have hs : starEach (p :: ps) X.env = (false, eval p X.env) :: starEach ps X.env ∧ (backTo pos (starEach ps X.env)).any (·.1) = false := by
    obtain ⟨pl, ds', t⟩ := h.head
    exact ⟨pl.star _ _, starNo t _ _⟩
  refine ⟨_, pe_blt M ok hu hrp g1' g2 g3 pa hs.1 hs.2, fun H0 F0 ρ σ τ H r Q hI hv he qq => ?_⟩
  simp only [den, valD] at he
  obtain ⟨x, e1, he⟩ := obind he
  have hl := evV_len e1
  refine q _ _ _ _ _ _ x _ hI hv e1 fun vs H1 hI1 lk => ?_
  obtain ⟨ts, os, ρ1⟩ := x
  -- one's answer is a number
  have atom : ∀ y, bltV f ts = some y → (f ≠ .list ∧ f ≠ .tuple ∧ f ≠ .sorted) → r = ⟨y, .full, ρ1⟩ → rF K f vs H1 Q := fun y ey hf er => by
    subst er
    exact blt_atom hI1 lk hl hf ey fun v h => qq v _ h (nolink rfl)
  by_cases hf : f = .list ∨ f = .tuple ∨ f = .sorted
  · match ts, os, vs, hl, lk, hI1, he with
    | [t], [o], [v], _, lk, hI1, he => exact blt_share hf hI1 he lk.1 fun v H' h nv => qq v H' h (nolink nv)
    | [t], [o], [], _, lk, _, _ => exact lk.elim
    | [t], [o], _ :: _ :: _, _, lk, _, _ => exact lk.2.elim
    | [], [], _, _, _, _, he =>
      simp only [shareB] at he
      obtain ⟨y, ey, _⟩ := obind he
      rcases hf with rfl | rfl | rfl <;> simp [bltV] at ey
    | _ :: _ :: _, os, _, hl, _, _, he =>
      match os, he with
      | [_], _ => simp at hl
      | [], _ => simp at hl
      | _ :: _ :: _, he =>
        simp only [shareB] at he
        obtain ⟨y, ey, _⟩ := obind he
        rcases hf with rfl | rfl | rfl <;> simp [bltV] at ey
  · have hf' : f ≠ .list ∧ f ≠ .tuple ∧ f ≠ .sorted := ⟨fun e => hf (.inl e), fun e => hf (.inr (.inl e)), fun e => hf (.inr (.inr e))⟩
    obtain ⟨y, ey, er⟩ := shareB_nl (fun y ey => bltV_nl hf' ey) he
    exact atom y ey hf' er
end
end Ev
namespace Ev
open PySem PySem.Spec PyProof.Rows L2
def T.ty : T → String
  | .non => "NoneType" | .bl _ => "bool" | .int _ => "int" | .str _ => "str" | .tup _ => "tuple" | .lst _ => "list" | .dct _ _ => "dict" | .obj _ _ _ => "object"
def CT.s : CT → String
  | .int => "int" | .bool => "bool" | .str => "str" | .list => "list" | .tuple => "tuple"
section
variable {P : Program} {w : World} {K : PySem.W.Frag} {mg : Str → Option Value} {base : Heap} {k : Nat} {N : List Str} {sc : Scope} {U : BF → Bool} {G : List Nat → Option T} {C : List Nat → List T → Option (T × Own)}
variable {X : Cx} {H0 F0 H H' F : Hp} {ρ ρ' : Env} {σ : L2.St} {τ : List Gp} {t u y : T} {o q : Own} {va vb v : V} {r : R} {Q : VK}
theorem kit_non (c : CT) : kitB "NoneType" c.s = some (isiV c .non) := by cases c <;> decide +kernel
theorem kit_bl (c : CT) : kitB "bool" c.s = some (isiV c (.bl true)) := by cases c <;> decide +kernel
theorem kit_int (c : CT) : kitB "int" c.s = some (isiV c (.int 0)) := by cases c <;> decide +kernel
theorem kit_str (c : CT) : kitB "str" c.s = some (isiV c (.str [])) := by cases c <;> decide +kernel
theorem kit_tup (c : CT) : kitB "tuple" c.s = some (isiV c (.tup [])) := by cases c <;> decide +kernel
theorem kit_lst (c : CT) : kitB "list" c.s = some (isiV c (.lst [])) := by cases c <;> decide +kernel
theorem tyx_of (h : I K H0 F0 ρ σ (g1 o t v :: τ) H) : TyX K H v (.type t.ty) ∧ (∀ c, kitB t.ty (CT.s c) = some (isiV c t)) := by
  cases t with
  | non => rw [h.isNon]; exact ⟨.base .non, kit_non⟩
  | bl b => rw [h.isBl]; exact ⟨.base (.bl _), fun c => by cases c <;> exact kit_bl _⟩
  | int b => rw [h.isInt]; exact ⟨.base (.int _), fun c => by cases c <;> exact kit_int _⟩
  | str b => rw [h.isStr.1]; exact ⟨.base (.str _), fun c => by cases c <;> exact kit_str _⟩
  | tup xs =>
    obtain ⟨a, ws, rfl, rd, hl, h2⟩ := h.kidsT
    refine ⟨?_, fun c => by cases c <;> exact kit_tup _⟩
    rcases rd with (rd | ⟨ob, rd⟩) | ⟨ob, its, n, rd, hc, _⟩
    · exact .base (.tup rd)
    · exact .fTuple rd
    · exact .kTuple rd hc
  | lst xs =>
    obtain ⟨a, ws, rfl, rd, hl, h2, _⟩ := h.kidsL
    refine ⟨?_, fun c => by cases c <;> exact kit_lst _⟩
    rcases rd with rd | ⟨ob, rd⟩
    · exact .base (.lst rd)
    · exact .base (.frz rd)
  | dct _ _ =>
    obtain ⟨F, fp, s, r, _⟩ := h.top
    have r := RpL.one.mp r
    simp only [Rp] at r
  | obj _ _ _ =>
    obtain ⟨F, fp, s, r, _⟩ := h.top
    have r := RpL.one.mp r
    simp only [Rp] at r
theorem pe_cls {c : CT} {p0 : Pos} (M : MOk K mg U G) (ok : XOk P w K mg base k N sc X) (hg : sc.names.lookup c.nm = some .globalImplicit) (hd : (c.nm == ("__debug__" : Str)) = false) (hn : c.nm ≠ "__name__") : PE X (.Name c.nm p0) (tC (.ty c.s)) := by
  have hm : X.mg c.nm = none := by rw [ok.mg_]; exact M.cls c
  have hg' : Gl X c.nm := ok.gl hg
  cases c with
  | int => exact pe_bltn hg' hm (u := .type "int") (by decide +kernel) rfl hn hd
  | bool => exact pe_bltn hg' hm (u := .type "bool") (by decide +kernel) rfl hn hd
  | str => exact pe_bltn hg' hm (u := .type "str") (by decide +kernel) rfl hn hd
  | list => exact pe_bltn hg' hm (u := .type "list") (by decide +kernel) rfl hn hd
  | tuple => exact pe_bltn hg' hm (u := .type "tuple") (by decide +kernel) rfl hn hd
theorem sv_isi {a : E} {c : CT} {pa : Expr} {x yy : Str} {p0 p1 pos : Pos} (M : MOk K mg U G) (hx : gnB sc "isinstance" x = true) (hy : gnB sc c.nm yy = true) (ha : SV P w K mg base k N sc (den G C a) pa) (pl : Plain pa) :
    SV P w K mg base k N sc (den G C (.isi a c)) (.Call (.Name x p0) [pa, .Name yy p1] [] pos) := fun X ok => by
  obtain ⟨rfl, a1, a2, a3⟩ := gnOf hx
  obtain ⟨rfl, b1, b2, b3⟩ := gnOf hy
  obtain ⟨ta, pp, q1⟩ := ha X ok
  have pc := pe_cls (p0 := p1) M ok b1 b2 b3
  have hs : starEach [pa, .Name c.nm p1] X.env = (false, eval pa X.env) :: starEach [.Name c.nm p1] X.env := pl.star _ _
  refine ⟨_, pe_callB (r := rIsi X.K) call_isi (ok.gl a1) (by rw [ok.mg_]; exact M.isi) (by decide +kernel) (pa_cons pp (pa_cons pc pa_nil) hs) a3 a2 hs rfl, fun H0 F0 ρ σ τ H r Q hI hv he q => ?_⟩
  simp only [den, valD] at he
  obtain ⟨ra, e1, rfl⟩ := omap he
  refine q1 _ _ _ _ _ _ ra _ hI hv e1 fun v H1 hI1 l1 => ?_
  obtain ⟨t1, t2⟩ := tyx_of hI1
  rw [ok.K_]
  exact ⟨v, .ty c.s, _, .type c.s, isiV c ra.t, rfl, .ty _, t1, kit_ty (t2 c), q _ _ (hI1.drop.bl _) (nolink rfl)⟩
theorem occ_ok {s : List Nat} {c j : Nat} (e : s.findIdx? (· == c) = some j) : ∃ rest, Builtin.Str.occurrences ⟨s.toArray⟩ ⟨#[c]⟩ 0 (⟨s.toArray⟩ : Str).length 1 = j :: rest := by
  rw [List.findIdx?_eq_some_iff_getElem] at e
  obtain ⟨hj, e1, e2⟩ := e
  have hc : ∀ i : Nat, StrLaws.At ⟨s.toArray⟩ ⟨#[c]⟩ (⟨s.toArray⟩ : Str).length i ↔ s[i]? = some c := fun i => by
    have := StrLaws.subAt_one ⟨s.toArray⟩ c i
    exact this
  have hat : s[j]? = some c := by
    rw [List.getElem?_eq_getElem hj]
    exact congrArg some (by simpa using e1)
  rcases StrLaws.occ_head ⟨s.toArray⟩ ⟨#[c]⟩ 1 (Nat.le_refl _) with ⟨_, h⟩ | ⟨i, rest, h1, h2, h3⟩
  · exact absurd ((hc j).mpr hat) (h j)
  · have hi := (hc i).mp h2
    have ej : i = j := by
      rcases Nat.lt_trichotomy i j with h | h | h
      · have := e2 i h
        have hi' : s[i]? = some s[i] := List.getElem?_eq_getElem (by omega)
        rw [hi'] at hi
        cases hi
        simp at this
      · exact h
      · exact absurd ((hc j).mpr hat) (h3 j h)
    subst ej
    exact ⟨rest, h1⟩
theorem few_ok {p : Expr} {cpos : Pos} {env : PySem.Env} (pl : Plain p) : ((backTo cpos (starEach [p] env)).all (fun x => !x.1) && (backToKw cpos (keywordEach [] env)).all (fun x => x.1.isSome)
      && decide ([p].length + ([] : List Keyword).length + (if ([] : List Keyword).isEmpty then 0 else 1) < 30)) = true := by
  rw [pl.star]; rfl
/-- the first place of an item -/
theorem idx_of {t : T} {v : V} {F' : Hp} {o' : Own} {fq : List Addr} (ft : flatT t = true) (ht : Rp K F' H o' t v fq) : ∀ {xs : List T} {ws : List V} {o : Own} {fp : List Addr} {j : Nat}, RpL K F H o xs ws fp → xs.all flatT = true → xs.findIdx? (fun z => eqT z t) = some j →
    ∃ z, ws[j]? = some z ∧ eqV z v = true ∧ ∀ (m : Nat) (z' : V), m < j → ws[m]? = some z' → eqV z' v = false
  | [], [], _, _, _, _, _, e => by simp at e
  | x :: xs, w :: ws, o, fp, j, h, f, e => by
    simp only [RpL] at h
    obtain ⟨f1, f2, h1, h2, _⟩ := h
    simp only [List.all_cons, Bool.and_eq_true] at f
    have ew := eqV_of f.1 ft h1 ht
    rw [List.findIdx?_cons] at e
    split at e
    · rename_i hx
      cases e
      exact ⟨w, rfl, by rw [ew]; exact hx, fun m z' hm => absurd hm (Nat.not_lt_zero _)⟩
    · rename_i hx
      obtain ⟨j', e', rfl⟩ := omap e
      obtain ⟨z, e1, e2, e3⟩ := idx_of ft ht h2 f.2 e'
      refine ⟨z, by simpa using e1, e2, fun m z' hm ez => ?_⟩
      cases m with
      | zero =>
        have : w = z' := by simpa using ez
        subst this
        rw [ew]
        simpa using hx
      | succ m => exact e3 m z' (by omega) (by simpa using ez)
  | [], _ :: _, _, _, _, h, _, _ => by simp [RpL] at h
  | _ :: _, [], _, _, _, h, _, _ => by simp [RpL] at h
theorem methV_s {ts : List T} (h : methV .sindex t ts = some y) : ∃ s c j, t = .str s ∧ ts = [.str [c]] ∧ s.findIdx? (· == c) = some j ∧ y = .int (j : Nat) := by
  unfold methV at h
  split at h
  · rename_i e; cases e
  · obtain ⟨j, e, rfl⟩ := omap h
    exact ⟨_, _, j, rfl, rfl, e, rfl⟩
  · rename_i e; cases e
  · cases h
theorem methV_l {ts : List T} (h : methV .lindex t ts = some y) : ∃ xs z j, t = .lst xs ∧ ts = [z] ∧ flatT z = true ∧ xs.all flatT = true ∧ xs.findIdx? (fun u => eqT u z) = some j ∧ y = .int (j : Nat) := by
  unfold methV at h
  split at h
  · split at h
    · rename_i hf
      simp only [Bool.and_eq_true] at hf
      obtain ⟨j, e, rfl⟩ := omap h
      exact ⟨_, _, j, rfl, rfl, hf.1, hf.2, e, rfl⟩
    · cases h
  · rename_i e; cases e
  · rename_i e; cases e
  · cases h
theorem methV_j {ts : List T} (h : methV .join t ts = some y) : ∃ a ys ss, t = .str a ∧ ts = [.lst ys] ∧ strsV ys = some ss ∧ (ss.map List.length).sum + ss.length * a.length ≤ 16777216 ∧ y = .str (joinN a ss) := by
  unfold methV at h
  split at h
  · rename_i e; cases e
  · rename_i e; cases e
  · obtain ⟨ss, e, h⟩ := obind h
    split at h
    · rename_i hz
      cases h
      exact ⟨_, _, ss, rfl, rfl, e, hz, rfl⟩
    · cases h
  · cases h
theorem strs_of : ∀ {xs : List T} {ws : List V} {o : Own} {fp : List Addr} {ss : List (List Nat)}, RpL K F H o xs ws fp → strsV xs = some ss → ws = (ss.map S8).map V.str ∧ ∀ z ∈ ss, Ascii z
  | [], [], _, _, _, _, e => by cases e; exact ⟨rfl, fun _ m => by cases m⟩
  | x :: xs, w :: ws, o, fp, ss, h, e => by
    simp only [RpL] at h
    obtain ⟨f1, f2, h1, h2, _⟩ := h
    cases x with
    | str z =>
      obtain ⟨ms, e', rfl⟩ := omap e
      simp only [Rp] at h1
      obtain ⟨h3, h4⟩ := strs_of h2 e'
      obtain ⟨h5, h6⟩ := h1
      refine ⟨by rw [h3, h5]; rfl, fun u m => ?_⟩
      rcases List.mem_cons.mp m with rfl | m
      · first | exact h6 | exact h6.1 | exact h6.2
      · exact h4 u m
    | _ => cases e
  | [], _ :: _, _, _, _, h, _ => by simp [RpL] at h
  | _ :: _, [], _, _, _, h, _ => by simp [RpL] at h
theorem joinN_L (a : List Nat) : ∀ ss : List (List Nat), joinN a ss = TL.joinL a ss
  | [] => rfl
  | [_] => rfl
  | p :: q :: r => by
    show p ++ (a ++ joinN a (q :: r)) = p ++ (a ++ TL.joinL a (q :: r))
    rw [joinN_L a (q :: r)]
theorem join_S8 (a : List Nat) (ss : List (List Nat)) : Txt.join (S8 a) (ss.map S8) = S8 (joinN a ss) := by
  have e := TL.tl_join (S8 a) (ss.map S8)
  have e2 : (ss.map S8).map TL.tl = ss := by
    rw [List.map_map]
    exact List.map_id _
  rw [e2] at e
  refine TL.ext_tl ?_
  rw [TL.join_eq, e, joinN_L]
  rfl
theorem joinN_asc {a : List Nat} (ha : Ascii a) : ∀ {ss : List (List Nat)}, (∀ z ∈ ss, Ascii z) → (joinN a ss).length ≤ (ss.map List.length).sum + ss.length * a.length ∧ ∀ c ∈ joinN a ss, c < 128
  | [], _ => ⟨by simp [joinN], fun c m => by simp [joinN] at m⟩
  | [p], h => ⟨by simp [joinN], fun c m => (h p (by simp)).2 c (by simpa [joinN] using m)⟩
  | p :: q :: r, h => by
    obtain ⟨h1, h2⟩ := joinN_asc ha (ss := q :: r) fun z m => h z (by simp only [List.mem_cons] at m ⊢; exact .inr m)
    refine ⟨?_, fun c m => ?_⟩
    · show (p ++ (a ++ joinN a (q :: r))).length ≤ _
      rw [List.length_append, List.length_append, List.map_cons, List.sum_cons, List.length_cons (a := p), Nat.succ_mul]
      omega
    · rcases List.mem_append.mp (show c ∈ p ++ (a ++ joinN a (q :: r)) from m) with m | m
      · exact (h p (by simp)).2 c m
      · rcases List.mem_append.mp m with m | m
        · exact ha.2 c m
        · exact h2 c m
theorem I.strsL {xs : List T} {ss : List (List Nat)} (h : I K H0 F0 ρ σ (g1 o (.lst xs) v :: τ) H) (e : strsV xs = some ss) : ∃ a, v = .ref a ∧ SqL K H a ((ss.map S8).map V.str) ∧ ∀ z ∈ ss, Ascii z := by
  obtain ⟨a, ws, rfl, rd, hl, h2, _⟩ := h.kidsL
  obtain ⟨F, fp, s, r⟩ := h2.see
  obtain ⟨h3, h4⟩ := strs_of r e
  exact ⟨a, rfl, by rw [← h3]; exact .inl rd, h4⟩
theorem sv_meth {f : MF} {a e : E} {po p : Expr} {m : Str} {apos cpos : Pos} (hm : m = f.nm) (hl : (apos.endLine == cpos.line) = true) (ha : SV P w K mg base k N sc (den G C a) po) (pla : Plain po) (he : SV P w K mg base k N sc (den G C e) p) (pl : Plain p) :
    SV P w K mg base k N sc (den G C (.meth f a [e])) (.Call (.Attribute po m apos) [p] [] cpos) := fun X ok => by
  subst hm
  obtain ⟨ta, p1, q1⟩ := ha X ok
  obtain ⟨tb, p2, q2⟩ := pa_V (SVs.cons he pl .nil) X ok
  have hb : attributeBase po f.nm X.env (eval po X.env) = eval po X.env := pla.att _ _ _
  have hs : starEach [p] X.env = (false, eval p X.env) :: starEach [] X.env := pl.star _ _
  have none : (∀ ts t, methV f t ts = none) → ∃ t, PE X (.Call (.Attribute po f.nm apos) [p] [] cpos) t ∧ ∀ H0 F0 ρ σ τ H r Q, I K H0 F0 ρ σ τ H → ((den G C (.meth f a [e])).c = true → NoV τ) → (den G C (.meth f a [e])).v ρ = some r →
      (∀ v H', I K H0 F0 r.ρ σ (g1 r.o r.t v :: τ) H' → (∀ i, r.o = .view i → σ[i]? = some (some v)) → Q v H') → t σ H Q := fun no =>
    ⟨fun _ _ _ => False, ⟨fun _ _ _ _ _ _ z => z.elim⟩, fun H0 F0 ρ σ τ H r Q hI hv he q => by
      simp only [den, valD] at he
      obtain ⟨r0, e1, he⟩ := obind he
      obtain ⟨ra, e0, he⟩ := obind he
      obtain ⟨x, e2, he⟩ := obind he
      obtain ⟨y, e3, he⟩ := obind he
      rw [no] at e3; cases e3⟩
  -- what comes of the two parts
  have parts : ∀ {ρ : Env} {r : R}, (den G C (.meth f a [e])).v ρ = some r → ∃ r0 ra x y, (den G C a).v ρ = some r0 ∧ vo (anyC (denL G C [e])) r0 = some ra ∧ evV (denL G C [e]) ra.ρ = some x ∧ methV f ra.t x.1 = some y ∧ y.nl = true ∧ r = ⟨y, .full, x.2.2⟩ := fun {ρ r} he => by
    simp only [den, valD] at he
    obtain ⟨r0, e1, he⟩ := obind he
    obtain ⟨ra, e0, he⟩ := obind he
    obtain ⟨x, e2, he⟩ := obind he
    obtain ⟨y, e3, he⟩ := obind he
    split at he
    · rename_i n
      cases he
      exact ⟨r0, ra, x, y, e1, e0, e2, e3, n, rfl⟩
    · cases he
  cases f with
  | sindex =>
    refine ⟨_, pe_bm PySem.F.plainAttrs_str PySem.F.slot_str_index PySem.F.type_str_index mt_sindex p1 p2 hb (few_ok pl) hl hs rfl, fun H0 F0 ρ σ τ H r Q hI hv he q => ?_⟩
    obtain ⟨r0, ra, x, y, e1, e0, e2, e3, n, rfl⟩ := parts he
    refine q1 _ _ _ _ _ _ r0 _ hI (fun c => hv (by simp [den, valD, c])) e1 fun v H1 hI0 l0 => ?_
    obtain ⟨hI1, l1, n1⟩ := hI0.vo e0 l0
    obtain ⟨t0, o0, ρ0⟩ := ra
    obtain ⟨ts, os, ρ1⟩ := x
    obtain ⟨s, c, j, rfl, rfl, ej, rfl⟩ := methV_s e3
    · obtain ⟨rfl, as⟩ := hI1.isStr
      refine ⟨rfl, q2 _ _ _ _ _ _ _ _ hI1 (fun c => (hv (by simp only [den, valD, Bool.or_eq_true]; exact .inr c)).cons (n1 c)) e2 fun vs H2 hI2 l2 => ?_⟩
      match os, vs, l2, hI2, evV_len e2 with
      | [o], [v], _, hI2, _ =>
        obtain ⟨rfl, ac⟩ := I.isStr (K := K) hI2
        obtain ⟨rest, er⟩ := occ_ok ej
        exact ⟨_, _, j, rest, rfl, rfl, er, q _ _ ((I.drop (I.drop hI2)).int _) (nolink rfl)⟩
      | [_], [], l2, _, _ => exact l2.elim
      | [_], _ :: _ :: _, l2, _, _ => exact l2.2.elim
      | [], _, _, _, hl => simp at hl
      | _ :: _ :: _, _, _, _, hl => simp at hl
  | lindex =>
    refine ⟨_, pe_bm PySem.F.plainAttrs_list PySem.F.slot_list_index PySem.F.type_list_index mt_index p1 p2 hb (few_ok pl) hl hs rfl, fun H0 F0 ρ σ τ H r Q hI hv he q => ?_⟩
    obtain ⟨r0, ra, x, y, e1, e0, e2, e3, n, rfl⟩ := parts he
    refine q1 _ _ _ _ _ _ r0 _ hI (fun c => hv (by simp [den, valD, c])) e1 fun v H1 hI0 l0 => ?_
    obtain ⟨hI1, l1, n1⟩ := hI0.vo e0 l0
    obtain ⟨t0, o0, ρ0⟩ := ra
    obtain ⟨ts, os, ρ1⟩ := x
    obtain ⟨xs, z, j, rfl, rfl, hf1, hf2, ej, rfl⟩ := methV_l e3
    · · skip
        obtain ⟨aa, ws, rfl, rd, hlen, h2, _⟩ := hI1.kidsL
        refine ⟨.inl ⟨rfl, _, .inl rd⟩, q2 _ _ _ _ _ _ _ _ hI1 (fun c => (hv (by simp only [den, valD, Bool.or_eq_true]; exact .inr c)).cons (n1 c)) e2 fun vs H2 hI2 l2 => ?_⟩
        match os, vs, l2, hI2, evV_len e2 with
        | [o], [v], _, hI2, _ =>
          have hI2 : I K H0 F0 ρ1 σ (g1 o z v :: g1 o0 (.lst xs) (.ref aa) :: τ) H2 := hI2
          obtain ⟨F, fp, s, rr, _⟩ := hI2.top
          have rr := RpL.one.mp rr
          obtain ⟨aa', ws', e5, rd', hlen', h3, _⟩ := hI2.drop.kidsL
          cases e5
          obtain ⟨F', fp', s', rr'⟩ := h3.see
          obtain ⟨zz, z1, z2, z3⟩ := idx_of hf1 rr rr' hf2 ej
          rw [ok.K_]
          exact ⟨aa, ws', v, j, zz, rfl, rfl, .inl rd', flat_of hf1 rr, flats_of hf2 rr', z1, z2, z3, q _ _ (hI2.drop.drop.int _) (nolink rfl)⟩
        | [_], [], l2, _, _ => exact l2.elim
        | [_], _ :: _ :: _, l2, _, _ => exact l2.2.elim
        | [], _, _, _, hl => simp at hl
        | _ :: _ :: _, _, _, _, hl => simp at hl
  | join =>
    refine ⟨_, pe_bm PySem.F.plainAttrs_str PySem.F.slot_str_join PySem.F.type_str_join mt_join p1 p2 hb (few_ok pl) hl hs rfl, fun H0 F0 ρ σ τ H r Q hI hv he q => ?_⟩
    obtain ⟨r0, ra, x, y, e1, e0, e2, e3, n, rfl⟩ := parts he
    refine q1 _ _ _ _ _ _ r0 _ hI (fun c => hv (by simp [den, valD, c])) e1 fun v H1 hI0 l0 => ?_
    obtain ⟨hI1, l1, n1⟩ := hI0.vo e0 l0
    obtain ⟨t0, o0, ρ0⟩ := ra
    obtain ⟨ts, os, ρ1⟩ := x
    obtain ⟨sep, ys, ss, rfl, rfl, ess, hz, rfl⟩ := methV_j e3
    obtain ⟨rfl, asep⟩ := hI1.isStr
    refine ⟨rfl, q2 _ _ _ _ _ _ _ _ hI1 (fun c => (hv (by simp only [den, valD, Bool.or_eq_true]; exact .inr c)).cons (n1 c)) e2 fun vs H2 hI2 l2 => ?_⟩
    match os, vs, l2, hI2, evV_len e2 with
    | [o], [v], _, hI2, _ =>
      have hI2 : I K H0 F0 ρ1 σ (g1 o (.lst ys) v :: g1 o0 (.str sep) (.str ⟨sep.toArray⟩) :: τ) H2 := hI2
      obtain ⟨aa, rfl, sq, asc⟩ := hI2.strsL ess
      obtain ⟨b1, b2⟩ := joinN_asc asep asc
      have hlen : ((ss.map S8).map (·.length)).sum + (ss.map S8).length * (S8 sep).length ≤ 16777216 := by
        have e1 : (ss.map S8).map (·.length) = ss.map List.length := by
          rw [List.map_map]
          exact List.map_congr_left fun z _ => by simp [S8, Str.length]
        rw [e1, List.length_map]
        exact hz
      rw [ok.K_]
      refine ⟨S8 sep, aa, ss.map S8, rfl, rfl, .inl sq, hlen, ?_⟩
      rw [join_S8]
      have hs16 : (16777216 : Nat) ≤ sizeLine := by decide
      exact q _ _ (hI2.drop.drop.str (⟨by omega, b2⟩ : Ascii (joinN sep ss))) (nolink rfl)
    | [_], [], l2, _, _ => exact l2.elim
    | [_], _ :: _ :: _, l2, _, _ => exact l2.2.elim
    | [], _, _, _, hl => simp at hl
    | _ :: _ :: _, _, _, _, hl => simp at hl
  | _ => exact none fun ts t => rfl
end
end Ev
namespace Ev
open PySem PySem.Spec PyProof.Rows L2
section
variable {P : Program} {w : World} {K : PySem.W.Frag} {mg : Str → Option Value} {base : Heap} {k : Nat} {N : List Str} {sc : Scope} {U : BF → Bool} {G : List Nat → Option T} {C : List Nat → List T → Option (T × Own)}
variable {X : Cx} {H0 F0 H H' F : Hp} {ρ ρ' : Env} {σ : L2.St} {τ : List Gp} {t u y : T} {o q : Own} {va vb v : V} {r : R} {Q : VK}
mutual
/-- what is all one's own hangs on no shared part -/
theorem Rp.fullAny {F F' : Hp} : ∀ {t : T} {v : V} {fp : List Addr}, (∀ a ∈ fp, F' a = none) → Rp K F H .full t v fp → Rp K F' H .full t v fp
  | .non, _, _, _, h => by simpa only [Rp] using h
  | .bl _, _, _, _, h => by simpa only [Rp] using h
  | .int _, _, _, _, h => by simpa only [Rp] using h
  | .str _, _, _, _, h => by simpa only [Rp] using h
  | .tup xs, v, fp, n, h => by
    simp only [Rp] at h ⊢
    obtain ⟨a, vs, e, s, r⟩ := h
    exact ⟨a, vs, e, s, RpL.fullAny n r⟩
  | .lst xs, v, fp, n, h => by
    simp only [Rp] at h ⊢
    obtain ⟨a, vs, hd, fp', e, ⟨s1, s2, s3⟩, r, ef⟩ := h
    subst ef s3
    exact ⟨a, vs, [a], fp', e, ⟨s1, n a (by simp), rfl⟩, RpL.fullAny (fun b m => n b (by simp [m])) r, rfl⟩
  | .dct _ _, _, _, _, h => by simp only [Rp] at h
  | .obj _ _ _, _, _, _, h => by simp only [Rp] at h
theorem RpL.fullAny {F F' : Hp} : ∀ {ts : List T} {vs : List V} {fp : List Addr}, (∀ a ∈ fp, F' a = none) → RpL K F H .full ts vs fp → RpL K F' H .full ts vs fp
  | [], [], _, _, h => by simpa only [RpL] using h
  | x :: xs, v :: vs, fp, n, h => by
    simp only [RpL] at h ⊢
    obtain ⟨f1, f2, h1, h2, ef⟩ := h
    subst ef
    exact ⟨f1, f2, Rp.fullAny (fun b m => n b (by simp [m])) h1, RpL.fullAny (fun b m => n b (by simp [m])) h2, rfl⟩
  | [], _ :: _, _, _, h => by simp [RpL] at h
  | _ :: _, [], _, _, h => by simp [RpL] at h
end
theorem Same.none {H H' : Hp} (s : Same H H') {a : Addr} (h : H' a = none) : H a = none := s.free h
/-- behind a call whose answer is all new -/
theorem I.callFull {Fc : Hp} (h : I K H0 F0 ρ σ τ H) (c : I K H Fc [] [] [g1 .full t v] H') : I K H0 F0 ρ σ (g1 .full t v :: τ) H' := by
  obtain ⟨F, fρ, fτ, c1⟩ := h
  obtain ⟨F', fρ', fτ', c2⟩ := c
  obtain ⟨f1, f2, r1, r2, e⟩ := c2.tmp
  have r2 : f2 = [] := r2
  subst r2
  rw [List.append_nil] at e
  subst e
  have hn : ∀ a ∈ fτ', H a = none := fun a m => (c2.ow a (by simp [m])).1
  have hs : ∀ a ∈ fρ ++ fτ, H a ≠ none := fun a m => by
    rcases List.mem_append.mp m with m | m
    · obtain ⟨xs, e⟩ := c1.env.fp_own a m; rw [e]; simp
    · obtain ⟨xs, e⟩ := c1.tmp.fp_own a m; rw [e]; simp
  have F2in : ∀ a, H a ≠ none → (fun a => if H a ≠ none then F a else F' a) a = F a := fun a n => if_pos n
  have F2out : ∀ a, H a = none → (fun a => if H a ≠ none then F a else F' a) a = F' a := fun a n => if_neg (by simp [n])
  have sF : Same F (fun a => if H a ≠ none then F a else F' a) := fun a x e => by
    have : H a ≠ none := by rw [c1.fh a x e]; simp
    rw [F2in a this]; exact e
  have ow1 : ∀ a ∈ fρ ++ fτ, (fun a => if H a ≠ none then F a else F' a) a = none := fun a m => by
    rw [F2in a (hs a m)]; exact (c1.ow a m).2
  have ow2 : ∀ a ∈ fτ', (fun a => if H a ≠ none then F a else F' a) a = none := fun a m => by
    rw [F2out a (hn a m)]; exact (c2.ow a (by simp [m])).2
  refine ⟨fun a => if H a ≠ none then F a else F' a, fρ, fτ' ++ fτ, fun a x e => ?_, c1.h0.trans c2.h0, fun a n => ?_, fun a m => ?_, ?_, c1.env.keep ⟨sF, fun _ _ e => SqT.mono (fun _ => Same.rd c2.h0) e, fun a m => ⟨c2.h0 a, ow1 a (by simp [m])⟩, fun e => by cases e⟩,
    fτ', fτ, RpL.one.mpr (Rp.fullAny ow2 (RpL.one.mp r1)), c1.tmp.keep (b := true) ⟨sF, fun _ _ e => SqT.mono (fun _ => Same.rd c2.h0) e, fun a m => ⟨c2.h0 a, ow1 a (by simp [m])⟩, fun _ => c2.h0⟩ (fun e => by cases e), rfl⟩
  · by_cases n : H a = none
    · have e : F' a = some x := by rw [← F2out a n]; exact e
      exact c2.fh a x e
    · have e : F a = some x := by rw [← F2in a n]; exact e
      exact c2.h0 a x (c1.fh a x e)
  · have n' : H a ≠ none := fun z => n (c1.h0.free z)
    exact (F2in a n').trans (c1.f0 a n)
  · rcases List.mem_append.mp m with m | m
    · exact ⟨(c1.ow a (by simp [m])).1, ow1 a (by simp [m])⟩
    · rcases List.mem_append.mp m with m | m
      · exact ⟨c1.h0.free (hn a m), ow2 a m⟩
      · exact ⟨(c1.ow a (by simp [m])).1, ow1 a (by simp [m])⟩
  · have n1 := c1.nd
    have n2 : fτ'.Nodup := by simpa using (List.nodup_append.mp c2.nd).2.1
    have p : (fρ ++ (fτ' ++ fτ)).Perm (fτ' ++ (fρ ++ fτ)) := by
      rw [← List.append_assoc, ← List.append_assoc]
      exact List.perm_append_comm.append_right _
    rw [p.nodup_iff, List.nodup_append]
    exact ⟨n2, n1, fun a m b m' e => hs b m' (by rw [← e]; exact hn a m)⟩
/-- behind a call whose answer may share -/
theorem I.callCold {fρ fτ : List Addr} (c1 : Core K H0 F0 ρ σ τ H F fρ fτ) (c : I K H F [] [] [g1 o t v] H') : I K H0 F0 ρ σ (g1 o t v :: τ) H' := by
  obtain ⟨F', fρ', fτ', c2⟩ := c
  obtain ⟨f1, f2, r1, r2, e⟩ := c2.tmp
  have r2 : f2 = [] := r2
  subst r2
  rw [List.append_nil] at e
  subst e
  have hn : ∀ a ∈ fτ', H a = none := fun a m => (c2.ow a (by simp [m])).1
  have hs : ∀ a ∈ fρ ++ fτ, H a ≠ none := fun a m => by
    rcases List.mem_append.mp m with m | m
    · obtain ⟨xs, e⟩ := c1.env.fp_own a m; rw [e]; simp
    · obtain ⟨xs, e⟩ := c1.tmp.fp_own a m; rw [e]; simp
  have sF : Same F F' := fun a x e => by
    have : H a ≠ none := by rw [c1.fh a x e]; simp
    rw [c2.f0 a this]; exact e
  have ow1 : ∀ a ∈ fρ ++ fτ, F' a = none := fun a m => by
    rw [c2.f0 a (hs a m)]; exact (c1.ow a m).2
  refine ⟨F', fρ, fτ' ++ fτ, c2.fh, c1.h0.trans c2.h0, fun a n => ?_, fun a m => ?_, ?_, c1.env.keep ⟨sF, fun _ _ e => SqT.mono (fun _ => Same.rd c2.h0) e, fun a m => ⟨c2.h0 a, ow1 a (by simp [m])⟩, fun e => by cases e⟩,
    fτ', fτ, r1, c1.tmp.keep (b := true) ⟨sF, fun _ _ e => SqT.mono (fun _ => Same.rd c2.h0) e, fun a m => ⟨c2.h0 a, ow1 a (by simp [m])⟩, fun _ => c2.h0⟩ (fun e => by cases e), rfl⟩
  · have n' : H a ≠ none := fun z => n (c1.h0.free z)
    exact (c2.f0 a n').trans (c1.f0 a n)
  · rcases List.mem_append.mp m with m | m
    · exact ⟨(c1.ow a (by simp [m])).1, ow1 a (by simp [m])⟩
    · rcases List.mem_append.mp m with m | m
      · exact ⟨c1.h0.free (hn a m), (c2.ow a (by simp [m])).2⟩
      · exact ⟨(c1.ow a (by simp [m])).1, ow1 a (by simp [m])⟩
  · have n1 := c1.nd
    have n2 : fτ'.Nodup := by simpa using (List.nodup_append.mp c2.nd).2.1
    have p : (fρ ++ (fτ' ++ fτ)).Perm (fτ' ++ (fρ ++ fτ)) := by
      rw [← List.append_assoc, ← List.append_assoc]
      exact List.perm_append_comm.append_right _
    rw [p.nodup_iff, List.nodup_append]
    exact ⟨n2, n1, fun a m b m' e => hs b m' (by rw [← e]; exact hn a m)⟩
theorem sv_call {f : List Nat} {es : List E} {p0 : Pos} {p : Expr} {ps : List Expr} {x : Str} {pos : Pos} (CO : COk P w K mg base k C) (hg : gnB sc (S8 f) x = true) (hno : isOwn f = false) (h : SVs P w K mg base k N sc (denL G C es) (p :: ps)) :
    SV P w K mg base k N sc (den G C (.call f es)) (.Call (.Name x p0) (p :: ps) [] pos) := fun X ok => by
  obtain ⟨rfl, a1, a2, a3⟩ := gnOf hg
  by_cases hc : ∃ ts r, C f ts = some r
  · obtain ⟨a, fd, qs, e1, e2, e3, e4, e5⟩ := CO.fn f hno hc
    obtain ⟨t, pa, qa⟩ := pa_V h X ok
    have hs : starEach (p :: ps) X.env = (false, eval p X.env) :: starEach ps X.env ∧ (backTo pos (starEach ps X.env)).any (·.1) = false := by
      obtain ⟨pl, ds', t⟩ := h.head
      exact ⟨pl.star _ _, starNo t _ _⟩
    have i1 := ok.prog; have i2 := ok.w_; have i3 := ok.K_; have i4 := ok.mg_; have i5 := ok.base_
    subst i1 i2 i3 i4 i5
    refine ⟨_, pe_call (E := E0) e4 ok.room (ok.gl a1) e1 e2 e3 .nil pass0 pa a2 hs.1 hs.2, fun H0 F0 ρ σ τ H r Q hI hv he q => ?_⟩
    simp only [den, valD] at he
    obtain ⟨x, h1, he⟩ := obind he
    obtain ⟨z, h2, he⟩ := obind he
    obtain ⟨⟨t0, o0⟩, h3, he⟩ := omap he
    refine qa _ _ _ _ _ _ x _ hI hv h1 fun vs H1 hI1 lk => ?_
    obtain ⟨hI2, hl⟩ := hI1.reL h2 lk
    obtain ⟨F2, fρ, fτ, c⟩ := id hI2
    obtain ⟨f1, f2, r1, r2, ef⟩ := c.tmp
    have ez := RpL.none_of (.inl rfl) r1
    subst ez
    have c' : Core X.K H0 F0 z.2 σ τ H1 F2 fρ f2 := ⟨c.fh, c.h0, c.f0, fun a m => c.ow a (by rw [ef]; simpa using m), by have := c.nd; rw [ef] at this; simpa using this, c.env, r2⟩
    have hnv := CO.nv f z.1 _ h3
    refine ⟨by rw [List.append_nil, ← hl]; exact e5 _ _ h3, F2, z.1, t0, o0, c.fh, by rw [List.append_nil]; exact r1, h3, fun v H' hr => ?_⟩
    cases hf : o0.isFull with
    | true =>
      rw [hf, if_pos rfl] at he
      subst he
      have := full_of hf
      subst this
      exact q v H' (I.callFull hI1.unstk hr) (nolink rfl)
    | false =>
      rw [hf, if_neg Bool.false_ne_true] at he
      subst he
      exact q v H' (I.callCold c' hr) (nolink hnv)
  · refine ⟨fun _ _ _ => False, ⟨fun _ _ _ _ _ _ z => z.elim⟩, fun H0 F0 ρ σ τ H r Q hI hv he q => ?_⟩
    simp only [den, valD] at he
    obtain ⟨x, h1, he⟩ := obind he
    obtain ⟨z, h2, he⟩ := obind he
    obtain ⟨y, h3, he⟩ := omap he
    exact hc ⟨_, _, h3⟩
end
end Ev
namespace Ev
open PySem PySem.Spec PyProof.Rows L2
section
variable {P : Program} {w : World} {K : PySem.W.Frag} {mg : Str → Option Value} {base : Heap} {k : Nat} {N : List Str} {sc : Scope} {U : BF → Bool} {G : List Nat → Option T} {C : List Nat → List T → Option (T × Own)}
variable {X : Cx} {H0 F0 H H' F : Hp} {ρ ρ' : Env} {σ : L2.St} {τ : List Gp} {t u y : T} {o q : Own} {va vb v : V} {r : R} {Q : VK}
theorem PI.or {tg e : Expr} {w1 w2 : TI} (h1 : PI X tg e w1) (h2 : PI X tg e w2) : PI X tg e (fun σ H R => w1 σ H R ∨ w2 σ H R) :=
  ⟨fun pins s σ H R I h => h.elim (fun h => h1.run pins s σ H R I h) fun h => h2.run pins s σ H R I h⟩
/-- an item of a shared list that stays on top -/
theorem I.itemL {xs : List T} {x : T} {i : Nat} (h : I K H0 F0 ρ σ (g1 .cold (.lst xs) v :: τ) H) (e : xs[i]? = some x) : ∃ a ws w, v = .ref a ∧ SqL K H a ws ∧ ws[i]? = some w ∧ I K H0 F0 ρ σ (g1 .cold x w :: g1 .cold (.lst xs) v :: τ) H := by
  obtain ⟨a, ws, rfl, rd, hl, h2, _⟩ := (cold_dup h).kidsL
  obtain ⟨w, ew, h3⟩ := h2.pick e
  exact ⟨a, ws, w, rfl, .inl rd, ew, h3⟩
theorem I.itemT {xs : List T} {x : T} {i : Nat} (h : I K H0 F0 ρ σ (g1 .cold (.tup xs) v :: τ) H) (e : xs[i]? = some x) : ∃ a ws w, v = .ref a ∧ SqT K H a ws ∧ ws[i]? = some w ∧ I K H0 F0 ρ σ (g1 .cold x w :: g1 .cold (.tup xs) v :: τ) H := by
  obtain ⟨a, ws, rfl, rd, hl, h2⟩ := (cold_dup h).kidsT
  obtain ⟨w, ew, h3⟩ := h2.pick e
  exact ⟨a, ws, w, rfl, rd, ew, h3⟩
theorem wk_list {xs : List T} {a : Addr} : Wk K xs (Itl K a) (g1 .cold (.lst xs) (.ref a)) where
  cold := rfl
  go := fun i H0 F0 ρ σ τ H h hi => by
    obtain ⟨a', ws, w, e, rd, ew, _⟩ := h.itemL (List.getElem?_eq_getElem hi)
    cases e
    exact ⟨ws, w, rd, ew⟩
  yld := fun i x H0 F0 ρ σ τ H v H' h e y => by
    obtain ⟨a', ws, w, e1, rd, ew, h2⟩ := h.itemL e
    cases e1
    obtain ⟨rfl, y⟩ := y
    have := y ws rd
    rw [ew] at this; cases this
    exact h2
  stop := fun i H0 F0 ρ σ τ H h hi => by
    obtain ⟨a', ws, e, rd, hl, _⟩ := h.kidsL
    cases e
    exact ⟨ws, .inl rd, by omega⟩
theorem wk_tup {xs : List T} {a : Addr} : Wk K xs (Itt K a) (g1 .cold (.tup xs) (.ref a)) where
  cold := rfl
  go := fun i H0 F0 ρ σ τ H h hi => by
    obtain ⟨a', ws, w, e, rd, ew, _⟩ := h.itemT (List.getElem?_eq_getElem hi)
    cases e
    exact ⟨ws, w, rd, ew⟩
  yld := fun i x H0 F0 ρ σ τ H v H' h e y => by
    obtain ⟨a', ws, w, e1, rd, ew, h2⟩ := h.itemT e
    cases e1
    obtain ⟨rfl, y⟩ := y
    have := y ws rd
    rw [ew] at this; cases this
    exact h2
  stop := fun i H0 F0 ρ σ τ H h hi => by
    obtain ⟨a', ws, e, rd, hl, _⟩ := h.kidsT
    cases e
    exact ⟨ws, rd, by omega⟩
theorem wk_str {s : List Nat} : Wk K (s.map fun c => .str [c]) (Its ⟨s.toArray⟩) (g1 .cold (.str s) (.str ⟨s.toArray⟩)) where
  cold := rfl
  go := fun i H0 F0 ρ σ τ H h hi => by
    have : i < s.length := by simpa using hi
    show i < s.toArray.size
    simpa using this
  yld := fun i x H0 F0 ρ σ τ H v H' h e y => by
    obtain ⟨rfl, c, ec, rfl⟩ := y
    have ec : s[i]? = some c := by simpa using ec
    have ex : x = .str [c] := by
      rw [List.getElem?_map, ec] at e
      cases e; rfl
    subst ex
    have as := h.isStr.2
    have h1 : 1 ≤ sizeLine := by show 1 ≤ 2 ^ 24; decide
    exact (h.str (x := [c]) ⟨h1, fun d m => by
      simp at m; subst m
      exact as.2 _ (List.mem_of_getElem? ec)⟩).nl rfl
  stop := fun i H0 F0 ρ σ τ H h hi => by
    have : s.length ≤ i := by simpa using hi
    show s.toArray.size ≤ i
    simpa using this
theorem wk_rng {lo : Int} {n : Nat} : Wk K ((List.range n).map fun k => .int (lo + (k : Nat))) (Itr lo n) ⟨.cold, [], []⟩ where
  cold := rfl
  go := fun i H0 F0 ρ σ τ H h hi => by
    show i < n
    simpa using hi
  yld := fun i x H0 F0 ρ σ τ H v H' h e y => by
    obtain ⟨rfl, rfl⟩ := y
    rw [List.getElem?_map] at e
    obtain ⟨j, ej, rfl⟩ := omap e
    have : j = i := by
      rw [List.getElem?_range] at ej
      · exact (Option.some.inj ej).symm
      · exact (List.getElem?_eq_some_iff.mp ej).1 |> fun h => by simpa using h
    subst this
    exact (h.int _).nl rfl
  stop := fun i H0 F0 ρ σ τ H h hi => by
    show n ≤ i
    simpa using hi
theorem wk_down {lo : Int} {n : Nat} : Wk K ((List.range n).map fun k => .int (lo - (k : Nat))) (Itc lo (-1) n) ⟨.cold, [], []⟩ where
  cold := rfl
  go := fun i H0 F0 ρ σ τ H h hi => by
    show i < n
    simpa using hi
  yld := fun i x H0 F0 ρ σ τ H v H' h e y => by
    obtain ⟨rfl, rfl⟩ := y
    rw [List.getElem?_map] at e
    obtain ⟨j, ej, rfl⟩ := omap e
    have : j = i := by
      rw [List.getElem?_range] at ej
      · exact (Option.some.inj ej).symm
      · exact (List.getElem?_eq_some_iff.mp ej).1 |> fun h => by simpa using h
    subst this
    have e2 : lo + (j : Int) * (-1) = lo - (j : Int) := by omega
    rw [e2]
    exact (h.int _).nl rfl
  stop := fun i H0 F0 ρ σ τ H h hi => by
    show n ≤ i
    simpa using hi
theorem wk_rev {xs : List T} {a : Addr} : Wk K xs.reverse (Itv K a xs.length) (g1 .cold (.lst xs) (.ref a)) where
  cold := rfl
  go := fun i H0 F0 ρ σ τ H h hi => by
    have hi : i < xs.length := by simpa using hi
    obtain ⟨a', ws, w, e, rd, ew, _⟩ := h.itemL (i := xs.length - 1 - i) (List.getElem?_eq_getElem (by omega))
    cases e
    exact ⟨hi, ws, w, rd, ew⟩
  yld := fun i x H0 F0 ρ σ τ H v H' h e y => by
    have hi : i < xs.length := by simpa using (List.getElem?_eq_some_iff.mp e).1
    rw [List.getElem?_reverse hi] at e
    obtain ⟨a', ws, w, e1, rd, ew, h2⟩ := h.itemL e
    cases e1
    obtain ⟨rfl, y⟩ := y
    have := y ws rd
    rw [ew] at this; cases this
    exact h2
  stop := fun i H0 F0 ρ σ τ H h hi => by
    show xs.length ≤ i
    simpa using hi
/-- a pair just made, and what stands below it -/
theorem I.pair {x y : T} {vx vy : V} {p : Addr} (h : I K H0 F0 ρ σ (g1 .cold x vx :: g1 .cold y vy :: τ) H) (hp : H p = none) : I K H0 F0 ρ σ (g1 .cold (.tup [x, y]) (.ref p) :: τ) (upd H p (.tup [vx, vy])) :=
  h.join.newTup (.inr rfl) hp
theorem wk_enum {xs : List T} {a : Addr} : Wk K (xs.zipIdx.map fun p => .tup [.int (p.2 : Nat), p.1]) (Ite K a) (g1 .cold (.lst xs) (.ref a)) where
  cold := rfl
  go := fun i H0 F0 ρ σ τ H h hi => by
    have hi : i < xs.length := by simpa using hi
    obtain ⟨a', ws, w, e, rd, ew, _⟩ := h.itemL (List.getElem?_eq_getElem hi)
    cases e
    exact ⟨ws, w, rd, ew⟩
  yld := fun i x H0 F0 ρ σ τ H v H' h e y => by
    obtain ⟨p, w, rfl, np, rfl, y⟩ := y
    rw [List.getElem?_map] at e
    obtain ⟨⟨x0, j⟩, ej, rfl⟩ := omap e
    rw [List.getElem?_zipIdx] at ej
    obtain ⟨x1, e1, e2⟩ := omap ej
    have e3 : x1 = x0 := congrArg Prod.fst e2
    have e4 : 0 + i = j := congrArg Prod.snd e2
    have e5 : j = i := by omega
    subst e3 e5
    obtain ⟨a', ws, w', e6, rd, ew, h2⟩ := h.itemL e1
    cases e6
    have := y ws rd
    rw [ew] at this; cases this
    exact ((h2.int _).nl rfl).pair np
  stop := fun i H0 F0 ρ σ τ H h hi => by
    obtain ⟨a', ws, e, rd, hl, _⟩ := h.kidsL
    cases e
    have : xs.length ≤ i := by simpa using hi
    exact ⟨ws, .inl rd, by omega⟩
theorem I.unjoin {t u : T} {v1 v2 : V} (h : I K H0 F0 ρ σ (⟨.cold, [t, u], [v1, v2]⟩ :: τ) H) : I K H0 F0 ρ σ (g1 .cold t v1 :: g1 .cold u v2 :: ⟨.cold, [t, u], [v1, v2]⟩ :: τ) H := by
  have h1 : I K H0 F0 ρ σ (g1 .cold u v2 :: ⟨.cold, [t, u], [v1, v2]⟩ :: τ) H := h.dup fun F fp s q => by
    have z := RpL.none_of (.inl rfl) q
    subst z
    simp only [RpL] at q ⊢
    obtain ⟨f1, f2, a1, ⟨f3, f4, a3, rfl, rfl⟩, e⟩ := q
    have e1 := Rp.none_of (.inl rfl) a1
    have e3 := Rp.none_of (.inl rfl) a3
    subst e1 e3
    exact ⟨[], [], a3, rfl, rfl⟩
  have h2 : I K H0 F0 ρ σ (⟨.cold, [t, u], [v1, v2]⟩ :: g1 .cold u v2 :: τ) H := h1.swap
  have h3 : I K H0 F0 ρ σ (g1 .cold t v1 :: ⟨.cold, [t, u], [v1, v2]⟩ :: g1 .cold u v2 :: τ) H := h2.dup fun F fp s q => by
    have z := RpL.none_of (.inl rfl) q
    subst z
    simp only [RpL] at q ⊢
    obtain ⟨f1, f2, a1, ⟨f3, f4, a3, rfl, rfl⟩, e⟩ := q
    have e1 := Rp.none_of (.inl rfl) a1
    subst e1
    exact ⟨[], [], a1, rfl, rfl⟩
  exact h3.perm ((List.Perm.swap _ _ _).cons _)
theorem wk_zip {xs ys : List T} {a b : Addr} : Wk K ((xs.zip ys).map fun p => .tup [p.1, p.2]) (Itz K a b) ⟨.cold, [.lst xs, .lst ys], [.ref a, .ref b]⟩ where
  cold := rfl
  go := fun i H0 F0 ρ σ τ H h hi => by
    have hi : i < xs.length ∧ i < ys.length := by
      have : i < min xs.length ys.length := by simpa using hi
      omega
    have h1 := h.unjoin
    obtain ⟨a', ws, w, e, rd, ew, _⟩ := h1.itemL (List.getElem?_eq_getElem hi.1)
    obtain ⟨b', zs, z, e', rd', ew', _⟩ := h1.drop.itemL (List.getElem?_eq_getElem hi.2)
    cases e; cases e'
    exact ⟨ws, zs, w, z, rd, rd', ew, ew'⟩
  yld := fun i x H0 F0 ρ σ τ H v H' h e y => by
    obtain ⟨p, w, z, rfl, np, rfl, y1, y2⟩ := y
    rw [List.getElem?_map] at e
    obtain ⟨⟨x0, y0⟩, ej, rfl⟩ := omap e
    rw [List.getElem?_zip_eq_some] at ej
    obtain ⟨e1, e2⟩ := ej
    have h1 := h.unjoin
    obtain ⟨b', zs, z', e', rd', ew', h3⟩ := h1.drop.itemL e2
    cases e'
    have := y2 zs rd'
    rw [ew'] at this; cases this
    have h4 : I K H0 F0 ρ σ (g1 .cold y0 z :: ⟨.cold, [.lst xs, .lst ys], [.ref a, .ref b]⟩ :: τ) H := h3.drop2
    have h5 := (h4.swap).unjoin
    obtain ⟨a', ws, w', e, rd, ew, h6⟩ := h5.itemL e1
    cases e
    have := y1 ws rd
    rw [ew] at this; cases this
    -- x0 on top, then the lists, the group, y0
    have h7 : I K H0 F0 ρ σ (g1 .cold x0 w :: ⟨.cold, [.lst xs, .lst ys], [.ref a, .ref b]⟩ :: g1 .cold y0 z :: τ) H := h6.drop2.drop2
    exact (h7.perm ((List.Perm.swap _ _ _).cons _)).pair np
  stop := fun i H0 F0 ρ σ τ H h hi => by
    have h1 := h.unjoin
    obtain ⟨a', ws, e, rd, hl, _⟩ := h1.kidsL
    obtain ⟨b', zs, e', rd', hl', _⟩ := h1.drop.kidsL
    cases e; cases e'
    have : min xs.length ys.length ≤ i := by simpa using hi
    exact ⟨ws, zs, .inl rd, .inl rd', by omega⟩
/-- the signs of two texts in new pairs -/
def ItzS (x y : Str) : It :=
  ⟨fun i _ => i < x.cps.size ∧ i < y.cps.size,
    fun i H v H' => ∃ p c d, v = .ref p ∧ H p = none ∧ x.cps[i]? = some c ∧ y.cps[i]? = some d ∧ H' = upd H p (.tup [.str ⟨#[c]⟩, .str ⟨#[d]⟩]),
    fun i _ => x.cps.size ≤ i ∨ y.cps.size ≤ i⟩
def zfp (n : Addr) : List Addr := [n + 4, n + 2, n + 3, n, n + 1]
theorem zfp_mem {n c : Addr} : c ∈ zfp n ↔ c = n + 4 ∨ c = n + 2 ∨ c = n + 3 ∨ c = n ∨ c = n + 1 := by simp [zfp]
theorem zsep (n : Addr) : ZipSep2 (n + 4) (n + 2) (n + 3) n (n + 1) [n] [n + 1] := zip_sep2 (fp1 := []) (fp2 := []) (by simp) (by simp)
def ZsT (n : Addr) (x y : Str) (t1 t2 : Tok) (i : Nat) (h : Heap) : Prop :=
  IsZip h (n + 4) (n + 2) (n + 3) .none ∧ IsTupOf2 h (n + 2) (.ref n) (.ref (n + 1)) ∧ (∃ a b, IsTupOf2 h (n + 3) a b) ∧ h.IsStrIter n (strIterType x) x t1 i ∧ h.IsStrIter (n + 1) (strIterType y) y t2 i ∧ i ≤ x.cps.size ∧ i ≤ y.cps.size
theorem turn_zipS {elts : List Expr} {kk : Nat} {tpos : Pos} (n : Addr) (x y : Str) (t1 t2 : Tok) : Turn P w K (.Tuple elts kk tpos) (ItzS x y) (zfp n) (n + 4) (ZsT n x y t1 t2) where
  mem := zfp_mem.mpr (.inl rfl)
  obj := fun i h st c hc => by
    obtain ⟨s1, s2, ⟨a, b, s3⟩, ⟨o4, g4, _, d4⟩, ⟨o5, g5, _, d5⟩, _⟩ := st
    rcases zfp_mem.mp hc with e | e | e | e | e
    all_goals subst e
    · refine ⟨_, s1, fun v => ?_⟩; intro q; cases q
    · refine ⟨_, s2, fun v => ?_⟩; intro q; cases q
    · refine ⟨_, s3, fun v => ?_⟩; intro q; cases q
    · refine ⟨o4, g4, fun v => ?_⟩; rw [d4]; intro q; cases q
    · refine ⟨o5, g5, fun v => ?_⟩; rw [d5]; intro q; cases q
  keep := fun i h h' st k => by
    obtain ⟨s1, s2, ⟨a, b, s3⟩, ⟨o4, g4, r4⟩, ⟨o5, g5, r5⟩, rl⟩ := st
    have kk : ∀ c, (c = n + 4 ∨ c = n + 2 ∨ c = n + 3 ∨ c = n ∨ c = n + 1) → ∀ o, h.get? c = some o → h'.get? c = some o := fun c hc => k c (zfp_mem.mpr hc)
    exact ⟨kk _ (by simp) _ s1, kk _ (by simp) _ s2, ⟨a, b, kk _ (by simp) _ s3⟩, ⟨o4, kk _ (by simp) _ g4, r4⟩, ⟨o5, kk _ (by simp) _ g5, r5⟩, rl⟩
  item := by
    intro X e1 e2 e3 hc i pins s σ H E I hf st hg
    subst e1; subst e2; subst e3
    obtain ⟨s1, s2, ⟨a, b, s3⟩, s4, s5, s6, s7⟩ := st
    have hn : X.A.in1.handled = none := I.ok.hd hc
    refine wpAny_pyNext_zipD2_item (zsep n) (Draws.text hn n x t1) (Draws.text hn (n + 1) y t2) s1 s2 s3 s4 s5 hg.1 hg.2 fun v1 v2 h' tk p1 p2 z1 z3 z4 z5 hT hsz kp => ?_
    obtain ⟨c, u1, ec, rfl⟩ := p1
    obtain ⟨d, u2, ed, rfl⟩ := p2
    refine ⟨_, rfl, ?_⟩
    refine wpAny_letOwnedTupleGo_zip (s := { s with heap := h', toks := tk }) z1 fun h2 z2 sb => ?_
    have zl : n + 4 < s.heap.objs.size := Heap.lt_size s1
    have hT2 := (sb.2 s.heap.objs.size (Nat.ne_of_gt zl)).trans hT
    have fr : H s.heap.objs.size = none := I.hok.fresh (Nat.le_refl _)
    have nw : ObjOk X.prog X.w (upd H s.heap.objs.size (.tup [.str ⟨#[c]⟩, .str ⟨#[d]⟩])) h2 s.heap.objs.size (.tup [.str ⟨#[c]⟩, .str ⟨#[d]⟩]) := by
      refine ⟨(by show 2 ≤ sizeLine; decide), _, .cons ⟨u1, rfl⟩ (.cons ⟨u2, rfl⟩ .nil), ⟨_, hT2, rfl, _, rfl⟩⟩
    have kp2 : ∀ c o, c ∉ zfp n → s.heap.get? c = some o → h2.get? c = some o := fun c o m e => by
      rw [zfp_mem] at m
      exact (sb.2 c fun q => m (by simp [q])).trans (kp c o (fun q => m (by simp [q])) (fun q => m (by simp [q])) (fun q => m (by simp [q])) (fun q => m (by simp [q])) e)
    refine ⟨.ref s.heap.objs.size, _, I.turnedNew (t' := tk) kp2 hf (Nat.le_refl _) nw, rfl, ⟨_, c, d, rfl, fr, ec, ed, rfl⟩, ⟨z2, ?_, ⟨_, _, (sb.2 _ (zsep n).TOz).trans z3⟩, ?_, ?_, hg.1, hg.2⟩, fun m hm => ?_⟩
    · exact (sb.2 _ (zsep n).TIz).trans (kp _ _ (zsep n).TIz (zsep n).TITO (zsep n).TIi1 (zsep n).TIi2 s2)
    · obtain ⟨o, g, r⟩ := z4
      exact ⟨o, (sb.2 _ (zsep n).zi1.symm).trans g, r⟩
    · obtain ⟨o, g, r⟩ := z5
      exact ⟨o, (sb.2 _ (zsep n).zi2.symm).trans g, r⟩
    · have lt : m < s.heap.objs.size := by
        have : m ≤ n + 4 := by
          rcases zfp_mem.mp hm with e | e | e | e | e
          all_goals subst e; simp
        exact Nat.lt_of_le_of_lt this zl
      rw [upd_ne (Nat.ne_of_lt lt)]
      exact (hf m hm).1
  done := by
    intro X e1 e2 e3 hc i pins s σ H E I hf st hg
    subst e1; subst e2; subst e3
    obtain ⟨s1, s2, ⟨a, b, s3⟩, s4, s5, s6, s7⟩ := st
    have hn : X.A.in1.handled = none := I.ok.hd hc
    have hend : i = x.cps.size ∨ i = y.cps.size := by
      rcases hg with q | q
      · exact .inl (Nat.le_antisymm s6 q)
      · exact .inr (Nat.le_antisymm s7 q)
    refine wpAny_pyNext_zipD2_end (zsep n) (Draws.text hn n x t1) (Draws.text hn (n + 1) y t2) s1 s2 s3 s4 s5 s6 s7 hend fun h' tk kp => ⟨rfl, ?_⟩
    exact I.turnedL (t' := tk) (ch := zfp n) (fun c o m e => by
      rw [zfp_mem] at m
      exact kp c o (fun q => m (by simp [q])) (fun q => m (by simp [q])) (fun q => m (by simp [q])) (fun q => m (by simp [q])) e) hf
  self := fun A i s Q E st h => wpAny_pyIter_zip st.1 h
def iZipS (ta : TA) : TI := fun σ H R => ta σ H fun vs H1 => ∃ x y, vs = [.str x, .str y] ∧ R (ItzS x y) H1
theorem pi_zipS {e f : Expr} {ta : TA} {p q tq : Pos} {es : List Expr} {j : Nat} (g : Gl X "zip") (m : X.mg "zip" = none) (a : PA X [e, f] ta)
    (s1 : starEach [e, f] X.env = (false, eval e X.env) :: starEach [f] X.env) (s2 : (backTo q (starEach [f] X.env)).any (·.1) = false) :
    PI X (.Tuple es j tq) (.Call (.Name "zip" p) [e, f] [] q) (iZipS ta) := by
  constructor
  intro pins s σ H R I h
  refine Call_ (ld_blt I g m PyProof.Rows.boot_zip ?_)
  refine PyProof.Rows.callWith_type1 ?_ s1 s2
  refine thn (a.run q pins s σ H _ I h) fun us s1 hus => ?_
  obtain ⟨vs, H1, I1, r1, x, y, rfl, hR⟩ := hus
  match us, r1 with
  | [_, _], .cons ⟨t1, rfl⟩ (.cons ⟨t2, rfl⟩ .nil) =>
    refine zip_begins2 (begins_text x t1) (begins_text y t2) trivial trivial fun h' z1 z2 z3 z4 z5 sz kp => wpAny_pyIter_zip z1 ?_
    have I2 : Inv X pins σ H1 { s1 with heap := h' } := I1.kept (t' := s1.toks) kp
    refine ⟨_, _, _, _, H1, rfl, I2, turn_zipS s1.heap.objs.size x y t1 t2, ⟨z1, z2, ⟨_, _, z3⟩, ⟨_, z4, rfl, rfl⟩, ⟨_, z5, rfl, rfl⟩, Nat.zero_le _, Nat.zero_le _⟩, fun c hc => ?_, hR⟩
    have : s1.heap.objs.size ≤ c := by
      rcases zfp_mem.mp hc with e | e | e | e | e
      all_goals subst e; simp
    exact I1.fpOk this (I1.hok.fresh this)
theorem wk_zipS {s t : List Nat} : Wk K ((s.zip t).map fun p => .tup [.str [p.1], .str [p.2]]) (ItzS ⟨s.toArray⟩ ⟨t.toArray⟩) ⟨.cold, [.str s, .str t], [.str ⟨s.toArray⟩, .str ⟨t.toArray⟩]⟩ where
  cold := rfl
  go := fun i H0 F0 ρ σ τ H h hi => by
    have : i < min s.length t.length := by simpa using hi
    show i < s.toArray.size ∧ i < t.toArray.size
    simp; omega
  yld := fun i x H0 F0 ρ σ τ H v H' h e y => by
    obtain ⟨p, c, d, rfl, np, ec, ed, rfl⟩ := y
    have ec : s[i]? = some c := by simpa using ec
    have ed : t[i]? = some d := by simpa using ed
    rw [List.getElem?_map] at e
    obtain ⟨⟨c', d'⟩, ej, rfl⟩ := omap e
    rw [List.getElem?_zip_eq_some] at ej
    obtain ⟨e1, e2⟩ := ej
    have e1 := Option.some.inj (e1.symm.trans ec)
    have e2 := Option.some.inj (e2.symm.trans ed)
    subst e1 e2
    have hu := h.unjoin
    have a1 := hu.isStr.2
    have a2 := hu.drop.isStr.2
    have one : 1 ≤ sizeLine := by show 1 ≤ 2 ^ 24; decide
    have h1 := (h.str (x := [d']) ⟨one, fun q m => by simp at m; subst m; exact a2.2 _ (List.mem_of_getElem? ed)⟩).nl (o' := .cold) rfl
    have h2 := (h1.str (x := [c']) ⟨one, fun q m => by simp at m; subst m; exact a1.2 _ (List.mem_of_getElem? ec)⟩).nl (o' := .cold) rfl
    exact h2.pair np
  stop := fun i H0 F0 ρ σ τ H h hi => by
    have : min s.length t.length ≤ i := by simpa using hi
    show s.toArray.size ≤ i ∨ t.toArray.size ≤ i
    simp; omega
end
end Ev
namespace Ev
open PySem PySem.Spec PyProof.Rows L2
section
variable {P : Program} {w : World} {K : PySem.W.Frag} {mg : Str → Option Value} {base : Heap} {k : Nat} {N : List Str} {sc : Scope} {U : BF → Bool} {G : List Nat → Option T} {C : List Nat → List T → Option (T × Own)}
variable {X : Cx} {H0 F0 H H' F : Hp} {ρ ρ' : Env} {σ : L2.St} {τ : List Gp} {t u y : T} {o q : Own} {va vb v : V} {r : R} {Q : VK}
theorem si_of {d : Den} {tg pe : Expr} (h : SV P w K mg base k N sc d pe) (hd : d.i = iOf d.v) : SI P w K mg base k N sc d tg pe := fun X ok => by
  obtain ⟨ta, p1, q1⟩ := h X ok
  refine ⟨_, PI.or (pi_list p1) (PI.or (pi_tup p1) (pi_str p1)), fun H0 F0 ρ σ τ H r R hI hv he q => ?_⟩
  rw [hd] at he
  obtain ⟨ra, e1, he⟩ := obind he
  obtain ⟨x, e2, he⟩ := obind he
  obtain ⟨xs, e3, rfl⟩ := omap he
  rw [ok.K_]
  obtain ⟨t', ρ1⟩ := x
  cases t' with
  | lst ys =>
    cases e3
    refine .inl (q1 _ _ _ _ _ _ ra _ hI hv e1 fun v H1 hI1 l1 => ?_)
    have h2 := hI1.re e2 l1
    obtain ⟨a, ws, e, rd, hl, _⟩ := (cold_dup h2).kidsL
    subst e
    exact ⟨a, rfl, ⟨ws, .inl rd⟩, q _ _ _ wk_list h2⟩
  | tup ys =>
    cases e3
    refine .inr (.inl (q1 _ _ _ _ _ _ ra _ hI hv e1 fun v H1 hI1 l1 => ?_))
    have h2 := hI1.re e2 l1
    obtain ⟨a, ws, e, rd, hl, _⟩ := (cold_dup h2).kidsT
    subst e
    exact ⟨a, rfl, ⟨ws, rd⟩, q _ _ _ wk_tup h2⟩
  | str s =>
    cases e3
    refine .inr (.inr (q1 _ _ _ _ _ _ ra _ hI hv e1 fun v H1 hI1 l1 => ?_))
    have h2 := hI1.re e2 l1
    obtain ⟨rfl, _⟩ := h2.isStr
    exact ⟨_, rfl, q _ _ _ wk_str h2⟩
  | _ => cases e3
theorem one_of {ts : List T} {os : List Own} {vs : List V} (h : I K H0 F0 ρ σ (stk ts os vs τ) H) (lk : LkL σ os vs) (hl : ts.length = os.length) (e : ts = [t]) : ∃ o v, vs = [v] ∧ I K H0 F0 ρ σ (g1 o t v :: τ) H := by
  subst e
  match os, vs, hl, lk, h with
  | [o], [v], _, _, h => exact ⟨o, v, rfl, h⟩
  | [o], [], _, lk, _ => exact lk.elim
  | [o], _ :: _ :: _, _, lk, _ => exact lk.2.elim
  | [], _, hl, _, _ => simp at hl
  | _ :: _ :: _, _, hl, _, _ => simp at hl
theorem ints_stk : ∀ {ns : List Int} {os : List Own} {vs : List V} {τ : List Gp}, I K H0 F0 ρ σ (stk (ns.map T.int) os vs τ) H → LkL σ os vs → ns.length = os.length → vs = ns.map V.int
  | [], [], [], _, _, _, _ => rfl
  | [], [], _ :: _, _, _, lk, _ => lk.elim
  | n :: ns, o :: os, [], _, _, lk, _ => lk.elim
  | n :: ns, o :: os, v :: vs, τ, h, lk, hl => by
    have h1 : I K H0 F0 ρ σ (stk (ns.map T.int) os vs (g1 o (.int n) v :: τ)) H := h
    have h2 := ints_stk h1 lk.2 (by simpa using hl)
    have h3 := (h1.unstk).isInt
    rw [h2, h3]
    rfl
  | [], _ :: _, _, _, _, _, hl => by simp at hl
  | _ :: _, [], _, _, _, _, hl => by simp at hl
theorem rng_ints {ts xs : List T} (e : rngV ts = some xs) :
    (∃ j : Int, ts = [j].map T.int ∧ -(2 ^ 62) ≤ j ∧ j < 2 ^ 62 ∧ xs = (List.range j.toNat).map fun i => .int (0 + (i : Nat))) ∨
    (∃ i j : Int, ts = [i, j].map T.int ∧ (-(2 ^ 62) ≤ i ∧ i < 2 ^ 62 ∧ -(2 ^ 62) ≤ j ∧ j < 2 ^ 62) ∧ xs = (List.range (j - i).toNat).map fun k => .int (i + (k : Nat))) ∨
    (∃ i j : Int, ts = [i, j, -1].map T.int ∧ (-(2 ^ 62) ≤ i ∧ i < 2 ^ 62 ∧ -(2 ^ 62) ≤ j ∧ j < 2 ^ 62) ∧ xs = (List.range (i - j).toNat).map fun k => .int (i - (k : Nat))) := by
  unfold rngV at e
  split at e
  · split at e
    · rename_i h
      cases e
      exact .inl ⟨_, rfl, by omega, by omega, by simp⟩
    · cases e
  · split at e
    · rename_i h
      cases e
      exact .inr (.inl ⟨_, _, rfl, ⟨by omega, by omega, by omega, by omega⟩, rfl⟩)
    · cases e
  · split at e
    · rename_i h
      cases e
      exact .inr (.inr ⟨_, _, rfl, ⟨by omega, by omega, by omega, by omega⟩, rfl⟩)
    · cases e
  · cases e
theorem evV_len' : ∀ {ds : List Den} {ρ : Env} {x : List T × List Own × Env}, evV ds ρ = some x → x.1.length = ds.length
  | [], _, _, e => by cases e; rfl
  | d :: ds, ρ, x, e => by
    simp only [evV] at e
    obtain ⟨r0, _, e⟩ := obind e
    obtain ⟨r, _, e⟩ := obind e
    obtain ⟨y, e2, rfl⟩ := omap e
    simp [evV_len' e2]
theorem SVs.len {ds : List Den} {ps : List Expr} (h : SVs P w K mg base k N sc ds ps) : ds.length = ps.length := by
  induction h with
  | nil => rfl
  | cons _ _ _ ih => simp [ih]
theorem si_rng {es : List E} {p0 : Pos} {p : Expr} {ps : List Expr} {x : Str} {pos : Pos} {tg : Expr} (M : MOk K mg U G) (hg : gnB sc "range" x = true) (h : SVs P w K mg base k N sc (denL G C es) (p :: ps)) :
    SI P w K mg base k N sc (den G C (.rng es)) tg (.Call (.Name x p0) (p :: ps) [] pos) := fun X ok => by
  obtain ⟨rfl, a1, a2, a3⟩ := gnOf hg
  obtain ⟨ta, pa, qa⟩ := pa_V h X ok
  have hm : X.mg "range" = none := by rw [ok.mg_]; exact M.rng
  have gl : Gl X "range" := ok.gl a1
  have no : (∀ ρ r, (den G C (.rng es)).i ρ = some r → False) → ∃ t, PI X tg (.Call (.Name "range" p0) (p :: ps) [] pos) t ∧ ∀ H0 F0 ρ σ τ H r R, I K H0 F0 ρ σ τ H → ((den G C (.rng es)).c = true → NoV τ) → (den G C (.rng es)).i ρ = some r →
      (∀ J g H', Wk K r.1 J g → I K H0 F0 r.2 σ (g :: τ) H' → R J H') → t σ H R := fun no =>
    ⟨fun _ _ _ => False, ⟨fun _ _ _ _ _ _ z => z.elim⟩, fun H0 F0 ρ σ τ H r R hI hv he q => (no _ _ he).elim⟩
  have parts : ∀ (ρ : Env) (r : List T × Env), (den G C (.rng es)).i ρ = some r → ∃ x, evV (denL G C es) ρ = some x ∧ rngV x.1 = some r.1 ∧ r.2 = x.2.2 ∧ x.1.length = (p :: ps).length := fun ρ r he => by
    simp only [den, itD] at he
    obtain ⟨x, e1, he⟩ := obind he
    obtain ⟨xs, e2, rfl⟩ := omap he
    exact ⟨x, e1, e2, rfl, by rw [evV_len' e1, h.len]⟩
  match ps, h, pa, no, parts with
  | [], h, pa, no, parts =>
    have s1 : starEach [p] X.env = [(false, eval p X.env)] := h.head.1.star _ _
    refine ⟨_, pi_range1 gl hm pa s1, fun H0 F0 ρ σ τ H r R hI hv he q => ?_⟩
    obtain ⟨x, e1, e2, e3, e4⟩ := parts _ _ he
    refine qa _ _ _ _ _ _ x _ hI hv e1 fun vs H1 hI1 lk => ?_
    obtain ⟨ts, os, ρ1⟩ := x
    rcases rng_ints e2 with ⟨j, rfl, b1, b2, ex⟩ | ⟨i, j, rfl, _⟩ | ⟨i, j, rfl, _⟩
    · have ev := ints_stk hI1 lk (evV_len e1)
      refine ⟨j, ev, b1, b2, q _ ⟨.cold, [], []⟩ _ ?_ ?_⟩
      · rw [ex]; exact wk_rng
      · rw [e3]; exact I.nil hI1.unstk
    · simp at e4
    · simp at e4
  | [p2], h, pa, no, parts =>
    have s1 : starEach [p, p2] X.env = (false, eval p X.env) :: starEach [p2] X.env := h.head.1.star _ _
    have s2 : starEach [p2] X.env = [(false, eval p2 X.env)] := h.head.2.elim fun _ t => t.head.1.star _ _
    refine ⟨_, pi_range2 gl hm pa (by rw [s1, s2]) s2, fun H0 F0 ρ σ τ H r R hI hv he q => ?_⟩
    obtain ⟨x, e1, e2, e3, e4⟩ := parts _ _ he
    refine qa _ _ _ _ _ _ x _ hI hv e1 fun vs H1 hI1 lk => ?_
    obtain ⟨ts, os, ρ1⟩ := x
    rcases rng_ints e2 with ⟨j, rfl, _⟩ | ⟨i, j, rfl, b, ex⟩ | ⟨i, j, rfl, _⟩
    · simp at e4
    · have ev := ints_stk hI1 lk (evV_len e1)
      refine ⟨i, j, ev, b, q _ ⟨.cold, [], []⟩ _ ?_ ?_⟩
      · rw [ex]; exact wk_rng
      · rw [e3]; exact I.nil hI1.unstk
    · simp at e4
  | [p2, p3], h, pa, no, parts =>
    have s1 : starEach [p, p2, p3] X.env = (false, eval p X.env) :: starEach [p2, p3] X.env := h.head.1.star _ _
    have s2 : (backTo pos (starEach [p2, p3] X.env)).any (·.1) = false := h.head.2.elim fun _ t => starNo t _ _
    refine ⟨_, pi_range3 gl hm pa s1 s2, fun H0 F0 ρ σ τ H r R hI hv he q => ?_⟩
    obtain ⟨x, e1, e2, e3, e4⟩ := parts _ _ he
    refine qa _ _ _ _ _ _ x _ hI hv e1 fun vs H1 hI1 lk => ?_
    obtain ⟨ts, os, ρ1⟩ := x
    rcases rng_ints e2 with ⟨j, rfl, _⟩ | ⟨i, j, rfl, _⟩ | ⟨i, j, rfl, b, ex⟩
    · simp at e4
    · simp at e4
    · have ev := ints_stk hI1 lk (evV_len e1)
      refine ⟨i, j, -1, (i - j).toNat, ev, RgC.neg b.1 b.2.1 b.2.2.1 b.2.2.2, q _ ⟨.cold, [], []⟩ _ ?_ ?_⟩
      · rw [ex]; exact wk_down
      · rw [e3]; exact I.nil hI1.unstk
  | _ :: _ :: _ :: _, h, pa, no, parts =>
    refine no fun ρ r he => ?_
    obtain ⟨x, e1, e2, e3, e4⟩ := parts _ _ he
    rcases rng_ints e2 with ⟨j, e, _⟩ | ⟨i, j, e, _⟩ | ⟨i, j, e, _⟩ <;> (rw [e] at e4; simp at e4)
theorem si_enum {a : E} {p0 pos tpos : Pos} {p : Expr} {x : Str} {elts : List Expr} {kk : Nat} (M : MOk K mg U G) (hg : gnB sc "enumerate" x = true) (h : SV P w K mg base k N sc (den G C a) p) (pl : Plain p) :
    SI P w K mg base k N sc (den G C (.enum a)) (.Tuple elts kk tpos) (.Call (.Name x p0) [p] [] pos) := fun X ok => by
  obtain ⟨rfl, a1, a2, a3⟩ := gnOf hg
  obtain ⟨ta, p1, q1⟩ := h X ok
  have s1 : starEach [p] X.env = [(false, eval p X.env)] := pl.star _ _
  refine ⟨_, pi_enum (ok.gl a1) (by rw [ok.mg_]; exact M.enm) (pa_cons p1 pa_nil s1) s1, fun H0 F0 ρ σ τ H r R hI hv he q => ?_⟩
  simp only [den, itD] at he
  obtain ⟨ra, e1, he⟩ := obind he
  obtain ⟨x, e2, he⟩ := obind he
  refine q1 _ _ _ _ _ _ ra _ hI hv e1 fun v H1 hI1 l1 => ?_
  have h2 := hI1.re e2 l1
  obtain ⟨t', ρ1⟩ := x
  cases t' with
  | lst ys =>
    cases he
    obtain ⟨aa, ws, e, rd, hl, _⟩ := (cold_dup h2).kidsL
    subst e
    rw [ok.K_]
    exact ⟨aa, ws, rfl, .inl rd, q _ _ _ wk_enum h2⟩
  | _ => cases he
theorem si_revd {a : E} {p0 pos : Pos} {p tg : Expr} {x : Str} (M : MOk K mg U G) (hg : gnB sc "reversed" x = true) (h : SV P w K mg base k N sc (den G C a) p) (pl : Plain p) :
    SI P w K mg base k N sc (den G C (.revd a)) tg (.Call (.Name x p0) [p] [] pos) := fun X ok => by
  obtain ⟨rfl, a1, a2, a3⟩ := gnOf hg
  obtain ⟨ta, p1, q1⟩ := h X ok
  have s1 : starEach [p] X.env = [(false, eval p X.env)] := pl.star _ _
  refine ⟨_, pi_reversed (ok.gl a1) (by rw [ok.mg_]; exact M.rvd) (pa_cons p1 pa_nil s1) s1, fun H0 F0 ρ σ τ H r R hI hv he q => ?_⟩
  simp only [den, itD] at he
  obtain ⟨ra, e1, he⟩ := obind he
  obtain ⟨x, e2, he⟩ := obind he
  refine q1 _ _ _ _ _ _ ra _ hI hv e1 fun v H1 hI1 l1 => ?_
  have h2 := hI1.re e2 l1
  obtain ⟨t', ρ1⟩ := x
  cases t' with
  | lst ys =>
    cases he
    obtain ⟨aa, ws, e, rd, hl, _⟩ := (cold_dup h2).kidsL
    subst e
    rw [ok.K_]
    refine ⟨aa, ws, rfl, .inl rd, ?_⟩
    rw [← hl]
    exact q _ _ _ wk_rev h2
  | _ => cases he
theorem si_zip {a b : E} {p0 pos tpos : Pos} {pa pb : Expr} {x : Str} {elts : List Expr} {kk : Nat} (M : MOk K mg U G) (hg : gnB sc "zip" x = true) (ha : SV P w K mg base k N sc (den G C a) pa) (pla : Plain pa) (hb : SV P w K mg base k N sc (den G C b) pb) (plb : Plain pb) :
    SI P w K mg base k N sc (den G C (.zip a b)) (.Tuple elts kk tpos) (.Call (.Name x p0) [pa, pb] [] pos) := fun X ok => by
  obtain ⟨rfl, a1, a2, a3⟩ := gnOf hg
  obtain ⟨ta, p1, q1⟩ := ha X ok
  obtain ⟨tb, p2, q2⟩ := hb X ok
  have s1 : starEach [pa, pb] X.env = (false, eval pa X.env) :: starEach [pb] X.env := pla.star _ _
  have s2 : starEach [pb] X.env = [(false, eval pb X.env)] := plb.star _ _
  have pa := pa_cons p1 (pa_cons p2 pa_nil s2) s1
  have mz : X.mg "zip" = none := by rw [ok.mg_]; exact M.zip
  refine ⟨_, PI.or (pi_zip (ok.gl a1) mz pa s1 (by rw [s2]; rfl)) (pi_zipS (ok.gl a1) mz pa s1 (by rw [s2]; rfl)), fun H0 F0 ρ σ τ H r R hI hv he q => ?_⟩
  simp only [den, itD] at he
  obtain ⟨r0, e1, he⟩ := obind he
  obtain ⟨ra, e0, he⟩ := obind he
  obtain ⟨rb, e2, he⟩ := obind he
  obtain ⟨x, e3, he⟩ := obind he
  obtain ⟨y, e4, he⟩ := obind he
  obtain ⟨t1, ρ1⟩ := x
  obtain ⟨t2, ρ2⟩ := y
  cases t1 with
  | lst xs =>
    cases t2 with
    | lst ys =>
      cases he
      left
      refine q1 _ _ _ _ _ _ r0 _ hI (fun c => hv (by simp [den, itD, c])) e1 fun v H1 hI0 l0 => ?_
      obtain ⟨hI1, l1, n1⟩ := hI0.vo e0 l0
      refine q2 _ _ _ _ _ _ rb _ hI1 (fun c => (hv (by simp [den, itD, c])).cons (n1 c)) e2 fun v2 H2 hI2 l2 => ?_
      have h3 := hI2.swap.re e3 l1
      have h4 := h3.swap.re e4 l2
      obtain ⟨bb, zs, e, rd, hl, _⟩ := (cold_dup h4).kidsL
      obtain ⟨aa, ws, e', rd', hl', _⟩ := (cold_dup h4.swap).kidsL
      subst e e'
      rw [ok.K_]
      exact ⟨aa, bb, ws, zs, rfl, .inl rd', .inl rd, q _ _ _ wk_zip h4.swap.join⟩
    | _ => cases he
  | str xs =>
    cases t2 with
    | str ys =>
      cases he
      right
      refine q1 _ _ _ _ _ _ r0 _ hI (fun c => hv (by simp [den, itD, c])) e1 fun v H1 hI0 l0 => ?_
      obtain ⟨hI1, l1, n1⟩ := hI0.vo e0 l0
      refine q2 _ _ _ _ _ _ rb _ hI1 (fun c => (hv (by simp [den, itD, c])).cons (n1 c)) e2 fun v2 H2 hI2 l2 => ?_
      have h3 := hI2.swap.re e3 l1
      have h4 := h3.swap.re e4 l2
      obtain ⟨e, _⟩ := h4.isStr
      obtain ⟨e', _⟩ := h4.swap.isStr
      subst e e'
      exact ⟨_, _, rfl, q _ _ _ wk_zipS h4.swap.join⟩
    | _ => cases he
  | _ => cases he
mutual
def gT (K : PySem.W.Frag) : Tg → TG
  | .nm i => gName i
  | .tp ts => gTup K ts.length (gTs K ts)
def gTs (K : PySem.W.Frag) : List Tg → TGs
  | [] => gNil
  | t :: ts => gCons (gT K t) (gTs K ts)
end
/-- what a target wants of the surroundings -/
structure TOk (K : PySem.W.Frag) (N : List Str) (scl : Scope) (X : Cx) : Prop where
  K_ : X.K = K
  N_ : X.N = N
  nd : N.Nodup
  calm : X.calm = true
  loc : ∀ x, locB scl x = true → Loc X.env.scope x ∧ (X.fn x = true ∨ X.env.scope.names.lookup x = some .local)
theorem asgEach {N : List Str} {scl : Scope} : ∀ {t : Tg} {p : Expr}, mG N scl t p = true → ∀ (es : List Expr) (env : PySem.Env), assignEach (p :: es) env = (false, assign p env) :: assignEach es env
  | .nm i, p, h, es, env => by
    unfold mG at h
    split at h
    · rfl
    · cases h
  | .tp ts, p, h, es, env => by
    unfold mG at h
    split at h
    · rfl
    · cases h
theorem asgEachs {N : List Str} {scl : Scope} : ∀ {ts : List Tg} {ps : List Expr}, mGs N scl ts ps = true → ∀ (env : PySem.Env), (assignEach ps env).length = ts.length ∧ (assignEach ps env).findIdx? (·.1) = none
  | [], [], _, _ => ⟨rfl, rfl⟩
  | [], _ :: _, h, _ => by simp [mGs] at h
  | _ :: _, [], h, _ => by simp [mGs] at h
  | t :: ts, p :: ps, h, env => by
    simp only [mGs, Bool.and_eq_true] at h
    have z := asgEachs h.2 env
    rw [asgEach h.1]
    exact ⟨by simp [z.1], by simp [List.findIdx?_cons, z.2]⟩
mutual
theorem pg_ok {N : List Str} {scl : Scope} (ok : TOk K N scl X) : ∀ {t : Tg} {p : Expr}, mG N scl t p = true → PG X p (gT K t)
  | .nm i, p, h => by
    unfold mG at h
    split at h
    · simp only [Bool.and_eq_true, decide_eq_true_eq] at h
      obtain ⟨l1, l2⟩ := ok.loc _ h.2
      simp only [gT]
      exact pg_name (by rw [ok.N_]; exact ok.nd) (by rw [ok.N_]; exact h.1) l1 l2
    · cases h
  | .tp ts, p, h => by
    unfold mG at h
    split at h
    · have z := asgEachs h X.env
      have z2 := pg_tup (X := X) (k := by assumption) (pos := by assumption) ok.calm (pgs_ok ok h) z.1 z.2
      rw [ok.K_] at z2
      simp only [gT]
      exact z2
    · cases h
theorem pgs_ok {N : List Str} {scl : Scope} (ok : TOk K N scl X) : ∀ {ts : List Tg} {ps : List Expr}, mGs N scl ts ps = true → PGs X ps (gTs K ts)
  | [], [], _ => by simp only [gTs]; exact pgs_nil
  | [], _ :: _, h => by simp [mGs] at h
  | _ :: _, [], h => by simp [mGs] at h
  | t :: ts, p :: ps, h => by
    simp only [mGs, Bool.and_eq_true] at h
    simp only [gTs]
    exact pgs_cons (pg_ok ok h.1) (pgs_ok ok h.2) (by rw [asgEach h.1]; rfl)
end
theorem I.uncons {x : T} {xs : List T} {vs : List V} {c : Own} (h : I K H0 F0 ρ σ (⟨c, x :: xs, vs⟩ :: τ) H) : ∃ v ws, vs = v :: ws ∧ I K H0 F0 ρ σ (g1 c x v :: ⟨c, xs, ws⟩ :: τ) H := by
  obtain ⟨F, fρ, fτ, cc⟩ := h
  obtain ⟨f1, f2, h1, h2, ef⟩ := cc.tmp
  cases vs with
  | nil => simp [RpL] at h1
  | cons v ws =>
    simp only [RpL] at h1
    obtain ⟨f3, f4, h3, h4, e⟩ := h1
    subst e
    refine ⟨v, ws, rfl, F, fρ, fτ, cc.fh, cc.h0, cc.f0, cc.ow, cc.nd, cc.env, f3, f4 ++ f2, RpL.one.mpr h3, ⟨f4, f2, h4, h2, rfl⟩, ?_⟩
    rw [ef, List.append_assoc]
theorem kidO_eq {o : Own} (h : o.isView = false) : kidR o = kidO o ∧ (kidO o).isView = false := by
  cases o <;> first | exact ⟨rfl, rfl⟩ | cases h
/-- slots outside of own are kept -/
def Off (own : List Nat) (σ σ' : L2.St) : Prop := wipe σ' own = wipe σ own
theorem wipe_com {i : Nat} {x : Option V} : ∀ {js : List Nat} {σ : L2.St}, i ∉ js → wipe (σ.set i x) js = (wipe σ js).set i x
  | [], _, _ => rfl
  | j :: js, σ, h => by
    simp only [wipe]
    rw [wipe_com fun z => h (List.mem_cons_of_mem _ z)]
    exact List.set_comm _ _ (fun z => h (by rw [z]; exact List.mem_cons_self))
theorem wipe_set {i : Nat} {x : Option V} : ∀ {own : List Nat} {σ : L2.St}, i ∈ own → wipe (σ.set i x) own = wipe σ own
  | [], _, h => by cases h
  | j :: js, σ, h => by
    simp only [wipe]
    by_cases e : i ∈ js
    · rw [wipe_set e]
    · have e' : i = j := by
        rcases List.mem_cons.mp h with h | h
        · exact h
        · exact absurd h e
      subst e'
      rw [wipe_com e, List.set_set]
mutual
theorem gT_ok : ∀ {tg : Tg} {t : T} {o : Own} {v : V} {ρ ρ' : Env} {σ : L2.St} {τ : List Gp} {Q : L2.St → Hp → Prop}, I K H0 F0 ρ σ (g1 o t v :: τ) H → o.isView = false → bindT tg t o ρ = some ρ' →
    (∀ σ', I K H0 F0 ρ' σ' τ H → (∀ own, tgIn own tg = true → Off own σ σ') → Q σ' H) → gT K tg v σ H Q
  | .nm i, t, o, v, ρ, ρ', σ, τ, Q, h, nv, e, q => by
    simp only [bindT] at e
    split at e
    · rename_i hi
      cases e
      simp only [gT]
      refine q _ ?_ fun own h => wipe_set (by simpa [tgIn] using h)
      cases n : t.nl with
      | true => exact (h.nl (o' := .full) n).put rfl hi
      | false => exact h.put nv hi
    · cases e
  | .tp ts, .tup xs, o, v, ρ, ρ', σ, τ, Q, h, nv, e, q => by
    simp only [bindT] at e
    obtain ⟨a, ws, rfl, rd, hl, h2⟩ := h.kidsT
    obtain ⟨e1, e2⟩ := kidO_eq nv
    rw [e1] at h2
    simp only [gT]
    have hlen : xs.length = ts.length := bindTs_len e
    exact ⟨a, ws, rfl, rd, by rw [← hl, hlen], gTs_ok h2 e2 e q⟩
  | .tp _, .non, _, _, _, _, _, _, _, _, _, e, _ => by simp [bindT] at e
  | .tp _, .bl _, _, _, _, _, _, _, _, _, _, e, _ => by simp [bindT] at e
  | .tp _, .int _, _, _, _, _, _, _, _, _, _, e, _ => by simp [bindT] at e
  | .tp _, .str _, _, _, _, _, _, _, _, _, _, e, _ => by simp [bindT] at e
  | .tp _, .lst _, _, _, _, _, _, _, _, _, _, e, _ => by simp [bindT] at e
  | .tp _, .dct _ _, _, _, _, _, _, _, _, _, _, e, _ => by simp [bindT] at e
  | .tp _, .obj _ _ _, _, _, _, _, _, _, _, _, _, e, _ => by simp [bindT] at e
theorem gTs_ok : ∀ {ts : List Tg} {xs : List T} {o : Own} {vs : List V} {ρ ρ' : Env} {σ : L2.St} {τ : List Gp} {Q : L2.St → Hp → Prop}, I K H0 F0 ρ σ (⟨o, xs, vs⟩ :: τ) H → o.isView = false → bindTs ts xs o ρ = some ρ' →
    (∀ σ', I K H0 F0 ρ' σ' τ H → (∀ own, tgsIn own ts = true → Off own σ σ') → Q σ' H) → gTs K ts vs σ H Q
  | [], [], o, vs, ρ, ρ', σ, τ, Q, h, nv, e, q => by
    simp only [bindTs] at e
    cases e
    simp only [gTs]
    obtain ⟨F, fp, s, r⟩ := h.see
    cases vs with
    | nil => exact ⟨rfl, q _ h.drop fun _ _ => rfl⟩
    | cons _ _ => simp [RpL] at r
  | t :: ts, x :: xs, o, vs, ρ, ρ', σ, τ, Q, h, nv, e, q => by
    simp only [bindTs] at e
    obtain ⟨ρ1, e1, e2⟩ := obind e
    obtain ⟨v, ws, rfl, h2⟩ := h.uncons
    simp only [gTs]
    refine ⟨v, ws, rfl, gT_ok h2 nv e1 fun σ1 h3 o1 => ?_⟩
    refine gTs_ok h3 nv e2 fun σ2 h4 o2 => q σ2 h4 fun own ho => ?_
    simp only [tgsIn, Bool.and_eq_true] at ho
    exact (o2 own ho.2).trans (o1 own ho.1)
  | [], _ :: _, _, _, _, _, _, _, _, _, _, e, _ => by simp [bindTs] at e
  | _ :: _, [], _, _, _, _, _, _, _, _, _, e, _ => by simp [bindTs] at e
theorem bindTs_len : ∀ {ts : List Tg} {xs : List T} {o : Own} {ρ ρ' : Env}, bindTs ts xs o ρ = some ρ' → xs.length = ts.length
  | [], [], _, _, _, _ => rfl
  | t :: ts, x :: xs, o, ρ, ρ', e => by
    simp only [bindTs] at e
    obtain ⟨ρ1, e1, e2⟩ := obind e
    simp [bindTs_len e2]
  | [], _ :: _, _, _, _, e => by simp [bindTs] at e
  | _ :: _, [], _, _, _, e => by simp [bindTs] at e
end
end
end Ev
namespace Ev
open PySem PySem.Spec PyProof.Rows L2
section
variable {P : Program} {w : World} {K : PySem.W.Frag} {mg : Str → Option Value} {base : Heap} {k : Nat} {N : List Str} {sc : Scope} {U : BF → Bool} {G : List Nat → Option T} {C : List Nat → List T → Option (T × Own)}
variable {X : Cx} {H0 F0 H H' F : Hp} {ρ ρ' : Env} {σ : L2.St} {τ : List Gp} {t u y : T} {o q : Own} {va vb v : V} {r : R} {Q : VK} {ts : List T} {vs : List V}
/-- a part of the claim on top is given up -/
theorem I.frzPart {g : Gp} (h : I K H0 F0 ρ σ (g :: τ) H) (q : ∀ F fp, Same F H → RpL K F H g.o g.ts g.vs fp → (∀ a ∈ fp, F a = none) → fp.Nodup → ∃ fk fp' : List Addr, (∀ a ∈ fk, a ∈ fp) ∧ fp'.Sublist fp ∧ (∀ a ∈ fp', a ∉ fk) ∧
    ∀ F', Same F F' → (∀ a ∈ fk, F' a = H a) → (∀ a ∈ fp', F' a = none) → RpL K F' H o ts vs fp') : I K H0 F0 ρ σ (⟨o, ts, vs⟩ :: τ) H := by
  obtain ⟨F, fρ, fτ, c⟩ := h
  obtain ⟨f1, f2, h1, h2, ef⟩ := c.tmp
  subst ef
  have nd := c.nd
  rw [List.nodup_append] at nd
  obtain ⟨n1, n2, n3⟩ := nd
  rw [List.nodup_append] at n2
  obtain ⟨n4, n5, n6⟩ := n2
  obtain ⟨fk, fp', s1, s2, s3, q⟩ := q F f1 c.fh h1 (fun a m => (c.ow a (by simp [m])).2) n4
  have hin : ∀ a, a ∈ fk → (fun a => if a ∈ fk then H a else F a) a = H a := fun a m => if_pos m
  have hout : ∀ a, a ∉ fk → (fun a => if a ∈ fk then H a else F a) a = F a := fun a n => if_neg n
  have hF : Same F (fun a => if a ∈ fk then H a else F a) := fun a x e => by
    by_cases m : a ∈ fk
    · rw [hin a m]; exact c.fh a x e
    · rw [hout a m]; exact e
  have o1 : ∀ a ∈ fp', (fun a => if a ∈ fk then H a else F a) a = none := fun a m => by
    rw [hout a (s3 a m)]; exact (c.ow a (by simp [s2.subset m])).2
  have o2 : ∀ a ∈ f2, (fun a => if a ∈ fk then H a else F a) a = none := fun a m => by
    rw [hout a fun z => n6 a (s1 a z) a m rfl]; exact (c.ow a (by simp [m])).2
  have oρ : ∀ a ∈ fρ, (fun a => if a ∈ fk then H a else F a) a = none := fun a m => by
    rw [hout a fun z => n3 a m a (by simp [s1 a z]) rfl]; exact (c.ow a (by simp [m])).2
  refine ⟨fun a => if a ∈ fk then H a else F a, fρ, fp' ++ f2, fun a x e => ?_, c.h0, fun a n => ?_, fun a m => ?_, c.nd.sublist (List.Sublist.append (List.Sublist.refl _) (List.Sublist.append s2 (List.Sublist.refl _))), ?_, fp', f2, q _ hF hin o1, ?_, rfl⟩
  · by_cases m : a ∈ fk
    · have e : H a = some x := by rw [← hin a m]; exact e
      exact e
    · have e : F a = some x := by rw [← hout a m]; exact e
      exact c.fh a x e
  · exact (hout a fun m => n (c.ow a (by simp [s1 a m])).1).trans (c.f0 a n)
  · rcases List.mem_append.mp m with m | m
    · exact ⟨(c.ow a (by simp [m])).1, oρ a m⟩
    · rcases List.mem_append.mp m with m | m
      · exact ⟨(c.ow a (by simp [s2.subset m])).1, o1 a m⟩
      · exact ⟨(c.ow a (by simp [m])).1, o2 a m⟩
  · exact c.env.keep ⟨hF, fun _ _ e => e, fun a m => ⟨fun _ e => e, oρ a m⟩, fun e => by cases e⟩
  · exact h2.keep (Keep.frz hF o2) (fun e => by cases e)
/-- the outer list stays one's own, its items are shared -/
theorem I.toShal {xs : List T} (h : I K H0 F0 ρ σ (g1 o (.lst xs) v :: τ) H) (ho : o = .full ∨ o = .shal) : I K H0 F0 ρ σ (g1 .shal (.lst xs) v :: τ) H := by
  rcases ho with rfl | rfl
  · refine h.frzPart fun F fp s r n nd => ?_
    have r := RpL.one.mp r
    simp only [Rp] at r
    obtain ⟨a, ws, hd, fk, e0, ⟨e1, e2, e3⟩, rr, e4⟩ := r
    subst e0 e3 e4
    refine ⟨fk, [a], fun b m => by simp [m], by simp, fun b m z => ?_, fun F' sF hk hn => RpL.one.mpr ?_⟩
    · simp at m; subst m
      simp at nd
      exact nd.1 z
    · simp only [Rp]
      exact ⟨a, ws, [a], [], rfl, ⟨e1, hn a (by simp), rfl⟩, RpL.frz sF rfl hk rr, rfl⟩
  · exact h
theorem Keep.write {D : Addr} {ws ws' : List V} {fp : List Addr} (hD : H D = some (.lst ws)) (hn : D ∉ fp) (ho : ∀ a ∈ fp, F a = none) : Keep K F H F (upd H D (.lst ws')) false fp where
  fr := fun _ _ e => e
  tp := fun a xs h => by
    rcases h with (h | ⟨ob, h⟩) | h
    · exact .inl (.inl (by rw [upd_ne (ne_of h hD (by intro z; cases z))]; exact h))
    · exact .inl (.inr ⟨ob, by rw [upd_ne (ne_of h hD (by intro z; cases z))]; exact h⟩)
    · exact .inr h
  ow := fun a m => ⟨fun x e => by
    have : a ≠ D := fun z => hn (by rw [← z]; exact m)
    rw [upd_ne this]; exact e, ho a m⟩
  vw := fun e => by cases e
/-- a list that is one's own is changed -/
theorem I.write2 {g g' : Gp} {D : Addr} {ws ws' : List V} (h : I K H0 F0 ρ σ (g :: g' :: τ) H) (nv : NoV τ) (hD : H D = some (.lst ws))
    (q : ∀ F f1 f2, Same F H → RpL K F H g.o g.ts g.vs f1 → RpL K F H g'.o g'.ts g'.vs f2 → (∀ a ∈ f1 ++ f2, F a = none) → (f1 ++ f2).Nodup → D ∈ f2 ∧ ∃ fp', RpL K F (upd H D (.lst ws')) o ts vs fp' ∧ fp'.Perm (f1 ++ f2)) : I K H0 F0 ρ σ (⟨o, ts, vs⟩ :: τ) (upd H D (.lst ws')) := by
  obtain ⟨F, fρ, fτ, c⟩ := h
  obtain ⟨f1, f23, h1, ⟨f2, f3, h2, h3, rfl⟩, rfl⟩ := c.tmp
  have nd := c.nd
  rw [List.nodup_append] at nd
  obtain ⟨n1, n2, n3⟩ := nd
  rw [← List.append_assoc] at n2
  rw [List.nodup_append] at n2
  obtain ⟨n4, n5, n6⟩ := n2
  obtain ⟨dm, fp', r, p⟩ := q F f1 f2 c.fh h1 h2 (fun a m => (c.ow a (by simp only [List.mem_append] at m ⊢; grind)).2) n4
  have FD : F D = none := (c.ow D (by simp [dm])).2
  have HD0 : H0 D = none := (c.ow D (by simp [dm])).1
  have dρ : D ∉ fρ := fun m => n3 D m D (by simp [dm]) rfl
  have d3 : D ∉ f3 := fun m => n6 D (by simp [dm]) D m rfl
  refine ⟨F, fρ, fp' ++ f3, fun a x e => ?_, fun a x e => ?_, c.f0, fun a m => ?_, ?_, ?_, fp', f3, r, ?_, rfl⟩
  · have : a ≠ D := fun z => by rw [z, FD] at e; cases e
    rw [upd_ne this]; exact c.fh a x e
  · have : a ≠ D := fun z => by rw [z, HD0] at e; cases e
    rw [upd_ne this]; exact c.h0 a x e
  · refine c.ow a ?_
    simp only [List.mem_append] at m ⊢
    rcases m with m | m | m
    · exact .inl m
    · have := (p.mem_iff).mp m
      simp only [List.mem_append] at this
      grind
    · grind
  · have p2 : (fρ ++ (fp' ++ f3)).Perm (fρ ++ (f1 ++ (f2 ++ f3))) := by
      refine List.Perm.append_left _ ?_
      rw [← List.append_assoc (as := f1)]
      exact p.append_right _
    exact p2.nodup_iff.mpr c.nd
  · exact c.env.keep (Keep.write hD dρ fun a m => (c.ow a (by simp [m])).2)
  · exact h3.keep (Keep.write hD d3 fun a m => (c.ow a (by simp [m])).2) (fun _ g m => nv g m)
theorem minO_shal {a b : Own} (h : (a.isFull && b.isFull) = false) : minO a b = .shal := by
  unfold minO; rw [h]; rfl
/-- an item put behind a list that is one's own -/
theorem I.app {acc : List T} {D : Addr} {vy : V} (h : I K H0 F0 ρ σ (g1 q y vy :: g1 o (.lst acc) (.ref D) :: τ) H) (ho : o = .full ∨ o = .shal) (hq : q.isView = false) (nv : NoV τ) :
    ∃ ws, H D = some (.lst ws) ∧ acc.length = ws.length ∧ I K H0 F0 ρ σ (g1 (minO o q) (.lst (acc ++ [y])) (.ref D) :: τ) (upd H D (.lst (ws ++ [vy]))) := by
  obtain ⟨a, ws, e, rd, hl, _, own⟩ := h.drop.kidsL
  cases e
  have hD := own ho
  refine ⟨ws, hD, hl, ?_⟩
  have same : ∀ {ws' : List V}, Rd H D (.lst ws') → ws' = ws := fun z => by
    rcases z with z | ⟨ob, z⟩ <;> (rw [hD] at z; cases z)
    rfl
  cases hb : (o.isFull && q.isFull) with
  | true =>
    simp only [Bool.and_eq_true] at hb
    have e1 := full_of hb.1
    have e2 := full_of hb.2
    subst e1 e2
    refine h.write2 nv hD fun F f1 f2 s r1 r2 fn nd => ?_
    have r1 := RpL.one.mp r1
    have r2 := RpL.one.mp r2
    simp only [Rp] at r2
    obtain ⟨a, ws', hd, fk, e, ⟨h1, h2, e3⟩, rr2, e4⟩ := r2
    cases e
    subst e3 e4
    have := same (.inl h1)
    subst this
    have nd' := nd
    rw [List.nodup_append] at nd
    obtain ⟨n1, n2, n3⟩ := nd
    have d1 : D ∉ f1 := fun m => n3 D m D (by simp) rfl
    have dk : D ∉ fk := by
      simp only [List.singleton_append, List.nodup_cons] at n2
      exact n2.1
    refine ⟨by simp, [D] ++ (fk ++ f1), RpL.one.mpr ?_, ?_⟩
    · simp only [Rp]
      have k1 : RpL K F (upd H D (.lst (ws' ++ [vy]))) .full acc ws' fk := RpL.keep (Keep.write hD dk fun a m => fn a (by simp [m])) rr2
      have k2 : Rp K F (upd H D (.lst (ws' ++ [vy]))) .full y vy f1 := Rp.keep (Keep.write hD d1 fun a m => fn a (by simp [m])) r1
      exact ⟨D, ws' ++ [vy], [D], fk ++ f1, rfl, ⟨upd_same, h2, rfl⟩, RpL.append k1 (RpL.one.mpr k2), rfl⟩
    · rw [← List.append_assoc]
      exact List.perm_append_comm
  | false =>
    rw [minO_shal hb]
    have h1 := ((h.frz hq).swap.toShal ho).swap
    refine h1.write2 nv hD fun F f1 f2 s r1 r2 fn nd => ?_
    have e1 := RpL.none_of (.inl rfl) r1
    subst e1
    have r1 := RpL.one.mp r1
    have r2 := RpL.one.mp r2
    simp only [Rp] at r2
    obtain ⟨a, ws', hd, fk, e, ⟨h1, h2, e3⟩, rr2, e4⟩ := r2
    cases e
    subst e3 e4
    have := same (.inl h1)
    subst this
    have ek := RpL.none_of (.inl rfl) rr2
    subst ek
    refine ⟨by simp, [D], RpL.one.mpr ?_, by simp⟩
    simp only [Rp]
    have k1 : RpL K F (upd H D (.lst (ws' ++ [vy]))) .cold acc ws' [] := RpL.keep (Keep.write hD (by simp) fun a m => by simp at m) rr2
    have k2 : Rp K F (upd H D (.lst (ws' ++ [vy]))) .cold y vy [] := Rp.keep (Keep.write hD (by simp) fun a m => by simp at m) r1
    exact ⟨D, ws' ++ [vy], [D], [], rfl, ⟨upd_same, h2, rfl⟩, RpL.append k1 (RpL.one.mpr k2), rfl⟩
theorem I.wipe (h : I K H0 F0 ρ σ τ H) : ∀ own : List Nat, I K H0 F0 (wipeE own ρ) (L2.wipe σ own) τ H
  | [] => h
  | i :: is => (I.wipe h is).clear
def savG : List Nat → Env → L2.St → List Gp
  | [], _, _ => []
  | i :: is, ρ, σ => (match ρ[i]?, σ[i]? with
    | some (some (t, .full)), some (some v) => if t.nl then [g1 .full t v] else []
    | _, _ => []) ++ savG is ρ σ
theorem I.save (h : I K H0 F0 ρ σ τ H) : ∀ own : List Nat, I K H0 F0 ρ σ (savG own ρ σ ++ τ) H
  | [] => h
  | i :: is => by
    have h1 := I.save h is
    unfold savG
    split
    · rename_i t v e1 e2
      split
      · rename_i n
        obtain ⟨v', ev, _, _, _, hn⟩ := h1.look e1
        rw [e2] at ev; cases ev
        exact hn n
      · exact h1
    · exact h1
theorem savG_nov (own : List Nat) (ρ : Env) (σ : L2.St) : NoV (savG own ρ σ) := by
  induction own with
  | nil => intro g m; cases m
  | cons i is ih =>
    intro g m
    unfold savG at m
    rcases List.mem_append.mp m with m | m
    · split at m
      · split at m
        · simp at m; subst m; rfl
        · cases m
      · cases m
    · exact ih g m
def restS (σ₀ : L2.St) : List Nat → L2.St → L2.St
  | [], σ => σ
  | i :: is, σ => restS σ₀ is (σ.set i (σ₀[i]?.getD none))
theorem I.back {ρ₀ : Env} {σ₀ : L2.St} : ∀ {own : List Nat} {ρ : Env} {σ : L2.St}, I K H0 F0 ρ σ (savG own ρ₀ σ₀ ++ τ) H → ρ.length = ρ₀.length → (∀ i ∈ own, ∀ t o, ρ₀[i]? = some (some (t, o)) → ∃ v, σ₀[i]? = some (some v)) → I K H0 F0 (backE ρ₀ own ρ) (restS σ₀ own σ) τ H
  | [], _, _, h, _, _ => h
  | i :: is, ρ, σ, h, hl, hs => by
    unfold savG at h
    unfold backE restS
    have clr : ∀ {τ' : List Gp}, I K H0 F0 ρ σ (savG is ρ₀ σ₀ ++ τ) H → I K H0 F0 (ρ.set i none) (σ.set i (σ₀[i]?.getD none)) (savG is ρ₀ σ₀ ++ τ) H := fun h => h.clear
    refine I.back ?_ (by
      split
      · split <;> simpa using hl
      · simpa using hl) (fun j m => hs j (by simp [m]))
    split
    · rename_i t e1
      obtain ⟨v, ev⟩ := hs i (by simp) _ _ e1
      rw [e1, ev] at h
      dsimp only at h
      split
      · rename_i n
        rw [if_pos n] at h
        rw [ev]
        exact I.put h rfl (by rw [hl]; exact (List.getElem?_eq_some_iff.mp e1).1)
      · rename_i n
        rw [if_neg n] at h
        exact I.clear h
    · rename_i hx
      have : (match ρ₀[i]?, σ₀[i]? with
        | some (some (t, .full)), some (some v) => if t.nl = true then [g1 .full t v] else []
        | _, _ => []) = [] := by
        split
        · rename_i e1 e2
          exact absurd e1 (hx _)
        · rfl
      rw [this] at h
      exact I.clear h
theorem wipe_idem {own : List Nat} : ∀ {σ : L2.St}, L2.wipe (L2.wipe σ own) own = L2.wipe σ own := by
  intro σ
  have : ∀ (js : List Nat), (∀ j ∈ js, j ∈ own) → L2.wipe (L2.wipe σ js) own = L2.wipe σ own := by
    intro js
    induction js with
    | nil => intro _; rfl
    | cons j js ih =>
      intro h
      show L2.wipe ((L2.wipe σ js).set j none) own = _
      rw [wipe_set (h j (by simp)), ih fun i m => h i (by simp [m])]
  exact this own fun _ m => m
theorem rest_eq {σ₀ : L2.St} : ∀ {own : List Nat} {σ : L2.St}, σ.length = σ₀.length → (∀ j, j ∉ own → σ[j]? = σ₀[j]?) → restS σ₀ own σ = σ₀
  | [], σ, _, h => List.ext_getElem? fun j => h j (by simp)
  | i :: is, σ, hl, h => by
    unfold restS
    refine rest_eq (by simpa using hl) fun j m => ?_
    by_cases e : j = i
    · subst e
      by_cases hj : j < σ.length
      · rw [List.getElem?_set_self hj, List.getElem?_eq_getElem (by omega)]
        rfl
      · rw [List.getElem?_eq_none (by simpa using hj), List.getElem?_eq_none (by omega)]
    · rw [List.getElem?_set_ne (Ne.symm e)]
      exact h j (by simp [e, m])
theorem rest_wipe {own : List Nat} : restS σ own (L2.wipe σ own) = σ := rest_eq (wipe_length _ _) fun j m => wipe_out m
theorem wipeE_len : ∀ {own : List Nat} {ρ : Env}, (wipeE own ρ).length = ρ.length
  | [], _ => rfl
  | i :: is, ρ => by simp [wipeE, wipeE_len (own := is)]
end
/-- the value at a place -/
inductive Path (K : PySem.W.Frag) (H : Hp) : V → List Int → V → Prop
  | nil {v} : Path K H v [] v
  | cons {a ws k w ks v} : (SqL K H a ws ∨ SqT K H a ws) → atI ws k = some w → Path K H w ks v → Path K H (.ref a) (k :: ks) v
theorem Path.snoc {K : PySem.W.Frag} {H : Hp} {v v2 : V} : ∀ {ks : List Int} {k : Int}, Path K H v (ks ++ [k]) v2 → ∃ a ws, Path K H v ks (.ref a) ∧ (SqL K H a ws ∨ SqT K H a ws) ∧ atI ws k = some v2
  | [], k, h => by
    cases h with
    | cons s e p =>
      cases p
      exact ⟨_, _, .nil, s, e⟩
  | k0 :: ks, k, h => by
    cases h with
    | cons s e p =>
      obtain ⟨a, ws, p1, s1, e1⟩ := Path.snoc p
      exact ⟨a, ws, .cons s e p1, s1, e1⟩
section
variable {K : PySem.W.Frag} {F H H' : Hp}
theorem RpL.at_ : ∀ {ts : List T} {vs : List V} {fp : List Addr} {j : Nat} {x : T}, RpL K F H .full ts vs fp → ts[j]? = some x → ∃ v l f r, vs[j]? = some v ∧ Rp K F H .full x v f ∧ fp = l ++ (f ++ r) ∧
    ∀ H' x' f', Keep K F H F H' false (l ++ r) → Rp K F H' .full x' v f' → RpL K F H' .full (ts.set j x') vs (l ++ (f' ++ r))
  | [], _, _, _, _, _, e => by simp at e
  | _ :: _, [], _, _, _, h, _ => by simp [RpL] at h
  | t :: ts, v :: vs, fp, 0, x, h, e => by
    simp only [RpL] at h
    obtain ⟨f1, f2, h1, h2, rfl⟩ := h
    cases (show t = x by simpa using e)
    refine ⟨v, [], f1, f2, rfl, h1, rfl, fun H' x' f' k r => ?_⟩
    show RpL K F H' .full (x' :: ts) (v :: vs) _
    simp only [RpL]
    exact ⟨f', f2, r, RpL.keep (by simpa [Own.isView] using k) h2, rfl⟩
  | t :: ts, v :: vs, fp, j + 1, x, h, e => by
    simp only [RpL] at h
    obtain ⟨f1, f2, h1, h2, rfl⟩ := h
    obtain ⟨w, l, f, r, e1, q, rfl, g⟩ := RpL.at_ (j := j) h2 (by simpa using e)
    refine ⟨w, f1 ++ l, f, r, by simpa using e1, q, by rw [List.append_assoc], fun H' x' f' k rr => ?_⟩
    show RpL K F H' .full (t :: ts.set j x') (v :: vs) _
    simp only [RpL]
    refine ⟨f1, l ++ (f' ++ r), Rp.keep (k.sub fun a m => by simp [m]) h1, g H' x' f' (k.sub fun a m => by
      simp only [List.mem_append] at m ⊢
      grind) rr, by rw [List.append_assoc]⟩
theorem Rp.leaf : ∀ {ks : List Int} {t t' : T} {v : V} {fp : List Addr} {f : T → Option T}, Rp K F H .full t v fp → fp.Nodup → (∀ a ∈ fp, F a = none) → Same F H → modAt f ks t = some t' → ∃ v' x fx l r x', Path K H v ks v' ∧ Rp K F H .full x v' fx ∧ fp = l ++ (fx ++ r) ∧ f x = some x' ∧ getP ks t = some x ∧
    ∀ H' fx', Keep K F H F H' false (l ++ r) → Rp K F H' .full x' v' fx' → Rp K F H' .full t' v (l ++ (fx' ++ r))
  | [], t, t', v, fp, f, h, _, _, _, e => ⟨v, t, fp, [], [], t', .nil, h, by simp, e, rfl, fun H' fx' k r => by simpa using r⟩
  | k :: ks, .lst xs, t', v, fp, f, h, nd, fn, s, e => by
    simp only [modAt] at e
    obtain ⟨j, e1, e⟩ := obind e
    obtain ⟨x0, e2, e⟩ := obind e
    obtain ⟨y, e3, rfl⟩ := omap e
    simp only [Rp] at h
    obtain ⟨a, ws, hd, fk, rfl, hl, r, rfl⟩ := h
    obtain ⟨w, l, f0, rr, e4, q, rfl, g⟩ := RpL.at_ r e2
    obtain ⟨h1, h2, rfl⟩ := hl
    have nd0 : f0.Nodup := (List.nodup_append.mp (List.nodup_append.mp (List.nodup_append.mp nd).2.1).2.1).1
    obtain ⟨v', x, fx, l2, r2, x', p, q2, rfl, e5, gp, g2⟩ := Rp.leaf q nd0 (fun a m => fn a (by simp [m])) s e3
    have hlen := RpL.len r
    have hat : atI ws k = some w := by
      unfold atI
      rw [← hlen, e1, Option.bind_some, e4]
    refine ⟨v', x, fx, [a] ++ l ++ l2, r2 ++ rr, x', .cons (.inl (.inl (.inl h1))) hat p, q2, by simp, e5, by simp only [getP]; unfold atI; rw [e1, Option.bind_some, e2]; exact gp, fun H' fx' kp rx => ?_⟩
    simp only [Rp]
    refine ⟨a, ws, [a], l ++ ((l2 ++ (fx' ++ r2)) ++ rr), rfl, ⟨(kp.ow a (by simp)).1 _ h1, h2, rfl⟩, g H' y _ (kp.sub fun b m => ?_) (g2 H' fx' (kp.sub fun b m => ?_) rx), by simp⟩
    · simp only [List.mem_append] at m ⊢; grind
    · simp only [List.mem_append] at m ⊢; grind
  | k :: ks, .tup xs, t', v, fp, f, h, nd, fn, s, e => by
    simp only [modAt] at e
    obtain ⟨j, e1, e⟩ := obind e
    obtain ⟨x0, e2, e⟩ := obind e
    obtain ⟨y, e3, rfl⟩ := omap e
    simp only [Rp] at h
    obtain ⟨a, ws, rfl, sq, r⟩ := h
    obtain ⟨w, l, f0, rr, e4, q, rfl, g⟩ := RpL.at_ r e2
    have nd0 : f0.Nodup := (List.nodup_append.mp (List.nodup_append.mp nd).2.1).1
    obtain ⟨v', x, fx, l2, r2, x', p, q2, rfl, e5, gp, g2⟩ := Rp.leaf q nd0 (fun a m => fn a (by simp [m])) s e3
    have hlen := RpL.len r
    have hat : atI ws k = some w := by
      unfold atI
      rw [← hlen, e1, Option.bind_some, e4]
    refine ⟨v', x, fx, l ++ l2, r2 ++ rr, x', .cons (.inr sq) hat p, q2, by simp, e5, by simp only [getP]; unfold atI; rw [e1, Option.bind_some, e2]; exact gp, fun H' fx' kp rx => ?_⟩
    simp only [Rp]
    refine ⟨a, ws, rfl, kp.tp _ _ sq, ?_⟩
    have := g H' y (l2 ++ (fx' ++ r2)) (kp.sub fun b m => ?_) (g2 H' fx' (kp.sub fun b m => ?_) rx)
    · show RpL K F H' .full (xs.set j y) ws _
      simpa using this
    · simp only [List.mem_append] at m ⊢; grind
    · simp only [List.mem_append] at m ⊢; grind
  | _ :: _, .non, _, _, _, _, _, _, _, _, e => by simp [modAt] at e
  | _ :: _, .bl _, _, _, _, _, _, _, _, _, e => by simp [modAt] at e
  | _ :: _, .int _, _, _, _, _, _, _, _, _, e => by simp [modAt] at e
  | _ :: _, .str _, _, _, _, _, _, _, _, _, e => by simp [modAt] at e
  | _ :: _, .dct _ _, _, _, _, _, _, _, _, _, e => by simp [modAt] at e
  | _ :: _, .obj _ _ _, _, _, _, _, _, _, _, _, e => by simp [modAt] at e
end
section
variable {K : PySem.W.Frag} {H0 F0 F H H' : Hp} {ρ ρ' : Env} {σ : L2.St} {τ : List Gp} {t t' y : T} {v0 vy : V} {ks : List Int} {f : T → Option T} {g : List V → List V}
/-- a list somewhere within a tree that is one's own is changed -/
theorem I.modP (h : I K H0 F0 ρ σ (g1 .full y vy :: g1 .full t v0 :: τ) H) (nv : NoV τ) (e : modAt f ks t = some t')
    (hf : ∀ x x', f x = some x' → ∃ ys ys', x = .lst ys ∧ x' = .lst ys' ∧ ∀ F H ws fk fy, RpL K F H .full ys ws fk → Rp K F H .full y vy fy → ∃ fk' m, RpL K F H .full ys' (g ws) fk' ∧ (fk' ++ m).Perm (fk ++ fy)) :
    ∃ D ws ys ys', f (.lst ys) = some (.lst ys') ∧ Path K H v0 ks (.ref D) ∧ H D = some (.lst ws) ∧ ys.length = ws.length ∧ I K H0 F0 ρ σ (g1 .full t' v0 :: τ) (upd H D (.lst (g ws))) := by
  obtain ⟨F, fρ, fτ, c⟩ := h
  obtain ⟨f1, f23, h1, ⟨f2, f3, h2, h3, rfl⟩, rfl⟩ := c.tmp
  have h1 := RpL.one.mp h1
  have h2 := RpL.one.mp h2
  have nd := c.nd
  rw [List.nodup_append] at nd
  obtain ⟨n1, n2, n3⟩ := nd
  rw [← List.append_assoc] at n2
  rw [List.nodup_append] at n2
  obtain ⟨n4, n5, n6⟩ := n2
  have fn : ∀ a ∈ f1 ++ f2, F a = none := fun a m => (c.ow a (by simp only [List.mem_append] at m ⊢; grind)).2
  obtain ⟨n41, n42, n43⟩ := List.nodup_append.mp n4
  obtain ⟨v', x, fx, l, r, x', p, q2, rfl, e5, _, g2⟩ := Rp.leaf h2 n42 (fun a m => fn a (by simp only [List.mem_append] at m ⊢; grind)) c.fh e
  obtain ⟨ys, ys', rfl, rfl, hq⟩ := hf _ _ e5
  simp only [Rp] at q2
  obtain ⟨D, ws, hd, fk, rfl, ⟨hD, hF, rfl⟩, rr, rfl⟩ := q2
  have dm : D ∈ l ++ (([D] ++ fk) ++ r) := by simp
  have HD0 : H0 D = none := (c.ow D (by simp)).1
  have dρ : D ∉ fρ := fun m => n3 D m D (by simp) rfl
  have d3 : D ∉ f3 := fun m => n6 D (by simp) D m rfl
  have d1 : D ∉ f1 := fun m => n43 D m D (by simp) rfl
  have dk : D ∉ fk ∧ D ∉ l ∧ D ∉ r := by
    simp only [List.nodup_append, List.mem_append, List.nodup_cons, List.mem_cons, List.mem_singleton] at n42
    grind
  have kw : ∀ fp : List Addr, D ∉ fp → (∀ a ∈ fp, F a = none) → Keep K F H F (upd H D (.lst (g ws))) false fp := fun fp a b => Keep.write hD a b
  obtain ⟨fk', m, r3, pm⟩ := hq F (upd H D (.lst (g ws))) ws fk f1 (RpL.keep (kw fk dk.1 fun a z => fn a (by simp [z])) rr) (Rp.keep (kw f1 d1 fun a z => fn a (by simp [z])) h1)
  have leaf : Rp K F (upd H D (.lst (g ws))) .full (.lst ys') (.ref D) ([D] ++ fk') := by
    simp only [Rp]
    exact ⟨D, g ws, [D], fk', rfl, ⟨upd_same, hF, rfl⟩, r3, rfl⟩
  have new := g2 (upd H D (.lst (g ws))) ([D] ++ fk') (kw (l ++ r) (by simp [dk]) fun a z => fn a (by simp only [List.mem_append] at z ⊢; grind)) leaf
  refine ⟨D, ws, ys, ys', e5, p, hD, rr.len, F, fρ, (l ++ (([D] ++ fk') ++ r)) ++ f3, fun a x e => ?_, fun a x e => ?_, c.f0, fun a z => ?_, ?_, c.env.keep (kw fρ dρ fun a z => (c.ow a (by simp [z])).2), _, f3, RpL.one.mpr new, h3.keep (kw f3 d3 fun a z => (c.ow a (by simp [z])).2) (fun _ g z => nv g z), rfl⟩
  · have : a ≠ D := fun z => by rw [z, hF] at e; cases e
    rw [upd_ne this]; exact c.fh a x e
  · have : a ≠ D := fun z => by rw [z, HD0] at e; cases e
    rw [upd_ne this]; exact c.h0 a x e
  · refine c.ow a ?_
    have : a ∈ fk' → a ∈ fk ∨ a ∈ f1 := fun z => by
      have := (pm.mem_iff).mp (List.mem_append_left _ z)
      simpa using this
    simp only [List.mem_append] at z ⊢
    grind
  · have p2 : (fρ ++ ((l ++ (([D] ++ fk') ++ r)) ++ f3) ++ m).Perm (fρ ++ (f1 ++ (l ++ (([D] ++ fk) ++ r) ++ f3))) := by
      refine List.perm_iff_count.mpr fun z => ?_
      have := pm.count_eq z
      simp only [List.count_append] at this ⊢
      omega
    exact (p2.nodup_iff.mpr c.nd).sublist (List.sublist_append_left _ _)
end
section
variable {K : PySem.W.Frag} {H0 F0 F H H' : Hp} {ρ ρ' : Env} {σ : L2.St} {τ : List Gp} {t t' y : T} {v0 : V} {ks : List Int}
/-- a value with what it brings (new objects at fy) is put behind a list somewhere within a tree that is one's own; the place is known ahead of the new objects -/
theorem I.appP (h : I K H0 F0 ρ σ (g1 .full t v0 :: τ) H) (nv : NoV τ) (e : modAt (appV y) ks t = some t') : ∃ D ws, Path K H v0 ks (.ref D) ∧ H D = some (.lst ws) ∧ ws.length < sizeLine ∧
    ∀ H' vy (fy : List Addr), Same H H' → (∀ a ∈ fy, H a = none) → fy.Nodup → (∀ F, Same F H → Rp K F H' .full y vy fy) → I K H0 F0 ρ σ (g1 .full t' v0 :: τ) (upd H' D (.lst (ws ++ [vy]))) := by
  obtain ⟨F, fρ, fτ, c⟩ := h
  obtain ⟨f2, f3, h2, h3, rfl⟩ := c.tmp
  have h2 := RpL.one.mp h2
  have nd := c.nd
  rw [List.nodup_append] at nd
  obtain ⟨n1, n2, n3⟩ := nd
  rw [List.nodup_append] at n2
  obtain ⟨n4, n5, n6⟩ := n2
  have fn : ∀ a ∈ f2, F a = none := fun a m => (c.ow a (by simp [m])).2
  obtain ⟨v', x, fx, l, r, x', p, q2, rfl, e5, _, g2⟩ := Rp.leaf h2 n4 fn c.fh e
  cases x with
  | lst ys =>
    simp only [appV] at e5
    split at e5
    · rename_i hz
      cases e5
      simp only [Rp] at q2
      obtain ⟨D, ws, hd, fk, rfl, ⟨hD, hF, rfl⟩, rr, rfl⟩ := q2
      refine ⟨D, ws, p, hD, by rw [← rr.len]; exact hz, fun H' vy fy s hy ny ry => ?_⟩
      have HD0 : H0 D = none := (c.ow D (by simp)).1
      have dρ : D ∉ fρ := fun m => n3 D m D (by simp) rfl
      have d3 : D ∉ f3 := fun m => n6 D (by simp) D m rfl
      have dy : D ∉ fy := fun m => by rw [hy D m] at hD; cases hD
      have dk : D ∉ fk ∧ D ∉ l ∧ D ∉ r := by
        simp only [List.nodup_append, List.mem_append, List.nodup_cons, List.mem_cons, List.mem_singleton] at n4
        grind
      have hD' := s _ _ hD
      -- what lay at H lies at the end
      have kw : ∀ fp : List Addr, D ∉ fp → (∀ a ∈ fp, F a = none) → Keep K F H F (upd H' D (.lst (ws ++ [vy]))) false fp := fun fp a b =>
        let k1 : Keep K F H F H' false fp := ⟨fun _ _ e => e, fun _ _ e => SqT.mono (fun _ => Same.rd s) e, fun x m => ⟨s x, b x m⟩, fun e => by cases e⟩
        let k2 : Keep K F H' F (upd H' D (.lst (ws ++ [vy]))) false fp := Keep.write hD' a b
        ⟨fun _ _ e => e, fun a xs e => k2.tp a xs (k1.tp a xs e), fun x m => ⟨fun o e => (k2.ow x m).1 o ((k1.ow x m).1 o e), b x m⟩, fun e => by cases e⟩
      have yF : ∀ a ∈ fy, F a = none := fun a m => c.fh.free (hy a m)
      have yn : Rp K F (upd H' D (.lst (ws ++ [vy]))) .full y vy fy := Rp.keep (Keep.write hD' dy yF) (ry F c.fh)
      have leaf : Rp K F (upd H' D (.lst (ws ++ [vy]))) .full (.lst (ys ++ [y])) (.ref D) ([D] ++ (fk ++ fy)) := by
        simp only [Rp]
        exact ⟨D, ws ++ [vy], [D], fk ++ fy, rfl, ⟨upd_same, hF, rfl⟩, RpL.append (RpL.keep (kw fk dk.1 fun a z => fn a (by simp [z])) rr) (RpL.one.mpr yn), rfl⟩
      have new := g2 (upd H' D (.lst (ws ++ [vy]))) ([D] ++ (fk ++ fy)) (kw (l ++ r) (by simp [dk]) fun a z => fn a (by simp only [List.mem_append] at z ⊢; grind)) leaf
      have own : ∀ a ∈ fρ ++ (l ++ ([D] ++ fk ++ r) ++ f3), ∃ xs, H a = some (.lst xs) := fun a m => by
        rcases List.mem_append.mp m with m | m
        · exact c.env.fp_own a m
        · exact c.tmp.fp_own a m
      have dis : ∀ a ∈ fy, a ∉ fρ ++ (l ++ ([D] ++ fk ++ r) ++ f3) := fun a m z => by
        obtain ⟨xs, e⟩ := own a z
        rw [hy a m] at e; cases e
      refine ⟨F, fρ, (l ++ (([D] ++ (fk ++ fy)) ++ r)) ++ f3, fun a x e => ?_, fun a x e => ?_, c.f0, fun a z => ?_, ?_, c.env.keep (kw fρ dρ fun a z => (c.ow a (by simp [z])).2), _, f3, RpL.one.mpr new, h3.keep (kw f3 d3 fun a z => (c.ow a (by simp [z])).2) (fun _ g z => nv g z), rfl⟩
      · have : a ≠ D := fun z => by rw [z, hF] at e; cases e
        rw [upd_ne this]; exact s _ _ (c.fh a x e)
      · have : a ≠ D := fun z => by rw [z, HD0] at e; cases e
        rw [upd_ne this]; exact s _ _ (c.h0 a x e)
      · by_cases hm : a ∈ fy
        · exact ⟨c.h0.free (hy a hm), yF a hm⟩
        · refine c.ow a ?_
          simp only [List.mem_append] at z ⊢
          grind
      · have p2 : (fρ ++ ((l ++ (([D] ++ (fk ++ fy)) ++ r)) ++ f3)).Perm (fy ++ (fρ ++ (l ++ ([D] ++ fk ++ r) ++ f3))) := by
          refine List.perm_iff_count.mpr fun z => ?_
          simp only [List.count_append]
          omega
        refine p2.nodup_iff.mpr (List.nodup_append.mpr ⟨ny, c.nd, fun a m b z e => ?_⟩)
        subst e
        exact dis a m z
    · cases e5
  | _ => simp [appV] at e5
/-- a tree within one that is one's own is handed to a call that changes it -/
theorem I.ownCall {u0 t0 t1 t2 : T} {w : V} (h : I K H0 F0 ρ σ (g1 .full t v0 :: g1 .cold u0 w :: τ) H) (nv : NoV τ) (hg : getP ks t = some t0) (e : modAt (fun _ => some t1) ks t = some t2) :
    ∃ v' Hc F fp, Path K H v0 ks v' ∧ Same Hc H ∧ Same F H ∧ (∀ a ∈ fp, Hc a = none ∧ F a = none) ∧ fp.Nodup ∧ Rp K F H .full t0 v' fp ∧ RpL K F H .cold [u0] [w] [] ∧
      ∀ H', I K Hc F [] [] [g1 .full t1 v'] H' → I K H0 F0 ρ σ (g1 .full t2 v0 :: τ) H' := by
  obtain ⟨F, fρ, fτ, c⟩ := h
  obtain ⟨f1, f23, h1, ⟨f2, f3, h2, h3, rfl⟩, rfl⟩ := c.tmp
  have h1 := RpL.one.mp h1
  have z := RpL.none_of (.inl rfl) h2
  subst z
  simp only [List.nil_append] at c
  have nd := c.nd
  rw [List.nodup_append] at nd
  obtain ⟨n1, n2, n3⟩ := nd
  rw [List.nodup_append] at n2
  obtain ⟨n4, n5, n6⟩ := n2
  have fn : ∀ a ∈ f1, F a = none := fun a m => (c.ow a (by simp [m])).2
  obtain ⟨v', x, fx, l, r, x', p, q2, rfl, e5, gp, g2⟩ := Rp.leaf h1 n4 fn c.fh e
  rw [hg] at gp
  cases gp
  cases e5
  obtain ⟨m1, m2, m3⟩ := List.nodup_append.mp n4
  obtain ⟨m4, m5, m6⟩ := List.nodup_append.mp m2
  let Hc : Hp := fun a => if a ∈ fx then none else H a
  have hin : ∀ a ∈ fx, Hc a = none := fun a m => if_pos m
  have hout : ∀ a, a ∉ fx → Hc a = H a := fun a m => if_neg m
  have sHc : Same Hc H := fun a x e => by
    by_cases m : a ∈ fx
    · rw [hin a m] at e; cases e
    · rw [hout a m] at e; exact e
  refine ⟨v', Hc, F, fx, p, sHc, c.fh, fun a m => ⟨hin a m, fn a (by simp [m])⟩, m4, q2, h2, fun H' hr => ?_⟩
  obtain ⟨F', fρ', fτ', c2⟩ := hr
  obtain ⟨f1', f2', r1, r2, e'⟩ := c2.tmp
  have r2 : f2' = [] := r2
  subst r2
  rw [List.append_nil] at e'
  subst e'
  have r1 := RpL.one.mp r1
  -- the rest
  have own : ∀ a ∈ fρ ++ ((l ++ (fx ++ r)) ++ f3), H a ≠ none := fun a m => by
    rcases List.mem_append.mp m with m | m
    · obtain ⟨xs, e⟩ := c.env.fp_own a m; rw [e]; simp
    · obtain ⟨xs, e⟩ := c.tmp.fp_own a (by simpa using m); rw [e]; simp
  have rest : ∀ a, a ∈ fρ ∨ a ∈ l ∨ a ∈ r ∨ a ∈ f3 → a ∉ fx := fun a m k => by
    rcases m with m | m | m | m
    · exact n3 a m a (by simp [k]) rfl
    · exact m3 a m a (by simp [k]) rfl
    · exact m6 a k a m rfl
    · exact n6 a (by simp [k]) a m rfl
  have rin : ∀ a, a ∈ fρ ∨ a ∈ l ∨ a ∈ r ∨ a ∈ f3 → Hc a ≠ none := fun a m => by
    rw [hout a (rest a m)]
    refine own a ?_
    simp only [List.mem_append]
    rcases m with m | m | m | m
    · exact .inl m
    · exact .inr (.inl (.inl m))
    · exact .inr (.inl (.inr (.inr m)))
    · exact .inr (.inr m)
  have rF : ∀ a, a ∈ fρ ∨ a ∈ l ∨ a ∈ r ∨ a ∈ f3 → F' a = none := fun a m => by
    rw [c2.f0 a (rin a m)]
    refine (c.ow a ?_).2
    simp only [List.mem_append]
    rcases m with m | m | m | m
    · exact .inl m
    · exact .inr (.inl (.inl m))
    · exact .inr (.inl (.inr (.inr m)))
    · exact .inr (.inr m)
  have nF : ∀ a x, F a = some x → a ∉ fx := fun a x e m => by rw [fn a (by simp [m])] at e; cases e
  have sF : Same F F' := fun a x e => by
    have : Hc a ≠ none := by rw [hout a (nF a x e), c.fh a x e]; simp
    rw [c2.f0 a this]; exact e
  have tpk : ∀ a xs, SqT K H a xs → SqT K H' a xs := fun a xs h => by
    have nfx : ∀ ob, H a = some ob → (∀ ys, ob ≠ .lst ys) → H' a = some ob := fun ob eo ne => by
      have : a ∉ fx := fun m => by
        obtain ⟨ys, ey⟩ := q2.own a m
        rw [eo] at ey
        exact ne ys (Option.some.inj ey)
      exact c2.h0 a ob ((hout a this).trans eo)
    refine h.imp (fun rd => ?_) id
    rcases rd with rd | ⟨ob, rd⟩
    · exact .inl (nfx _ rd fun ys z => by cases z)
    · exact .inr ⟨ob, nfx _ rd fun ys z => by cases z⟩
  have stay : ∀ a, a ∈ fρ ∨ a ∈ l ∨ a ∈ r ∨ a ∈ f3 → ∀ ob, H a = some ob → H' a = some ob := fun a m ob e => c2.h0 a ob ((hout a (rest a m)).trans e)
  have kp : ∀ fp : List Addr, (∀ a ∈ fp, a ∈ fρ ∨ a ∈ l ∨ a ∈ r ∨ a ∈ f3) → Keep K F H F' H' false fp := fun fp hs => ⟨sF, tpk, fun a m => ⟨stay a (hs a m), rF a (hs a m)⟩, fun e => by cases e⟩
  have kq : Keep K F H F H' false (l ++ r) := ⟨fun _ _ e => e, tpk, fun a m => by
    have hs : a ∈ fρ ∨ a ∈ l ∨ a ∈ r ∨ a ∈ f3 := by
      rcases List.mem_append.mp m with m | m
      · exact .inr (.inl m)
      · exact .inr (.inr (.inl m))
    exact ⟨stay a hs, (c2.f0 a (rin a hs)).symm.trans (rF a hs)⟩, fun e => by cases e⟩
  have hn : ∀ a ∈ fτ', Hc a = none ∧ F' a = none := fun a m => c2.ow a (by simp [m])
  have Fn : ∀ a ∈ fτ', F a = none := fun a m => by
    by_cases k : a ∈ fx
    · exact fn a (by simp [k])
    · have := (hn a m).1
      rw [hout a k] at this
      exact c.fh.free this
  have H0n : ∀ a ∈ fτ', H0 a = none := fun a m => by
    cases k : H0 a with
    | none => rfl
    | some x =>
      exfalso
      have k2 := c.h0 a x k
      have k3 : a ∉ fx := fun q => by
        have := (c.ow a (by simp [q])).1
        rw [k] at this; cases this
      have := (hn a m).1
      rw [hout a k3, k2] at this
      cases this
  have new := g2 H' fτ' kq (Rp.fullAny Fn r1)
  refine ⟨F', fρ, (l ++ (fτ' ++ r)) ++ f3, c2.fh, fun a x k => ?_, fun a k => ?_, fun a m => ?_, ?_, c.env.keep (kp fρ fun a m => .inl m), _, f3, RpL.one.mpr (Rp.fullAny (fun a m => ?_) new), h3.keep (kp f3 fun a m => .inr (.inr (.inr m))) (fun _ g z => nv g z), rfl⟩
  · have k3 : a ∉ fx := fun q => by
      have := (c.ow a (by simp [q])).1
      rw [k] at this; cases this
    exact c2.h0 a x ((hout a k3).trans (c.h0 a x k))
  · have k3 : a ∉ fx := fun q => k (c.ow a (by simp [q])).1
    have k4 : Hc a ≠ none := by
      rw [hout a k3]
      exact fun z => k (c.h0.free z)
    exact (c2.f0 a k4).trans (c.f0 a k)
  · by_cases k : a ∈ fτ'
    · exact ⟨H0n a k, (hn a k).2⟩
    · have hs : a ∈ fρ ∨ a ∈ l ∨ a ∈ r ∨ a ∈ f3 := by
        simp only [List.mem_append] at m
        grind
      exact ⟨(c.ow a (by simp only [List.mem_append]; grind)).1, rF a hs⟩
  · have p2 : (fρ ++ ((l ++ (fτ' ++ r)) ++ f3)).Perm (fτ' ++ (fρ ++ ((l ++ r) ++ f3))) := by
      refine List.perm_iff_count.mpr fun z => ?_
      simp only [List.count_append]
      omega
    have n7 : (fρ ++ ((l ++ r) ++ f3)).Nodup := c.nd.sublist (List.Sublist.append (List.Sublist.refl _) (List.Sublist.append (List.Sublist.append (List.Sublist.refl _) (List.sublist_append_right _ _)) (List.Sublist.refl _)))
    have n8 : fτ'.Nodup := by simpa using (List.nodup_append.mp c2.nd).2.1
    refine p2.nodup_iff.mpr (List.nodup_append.mpr ⟨n8, n7, fun a m b z e => ?_⟩)
    subst e
    refine rin a ?_ (hn a m).1
    simp only [List.mem_append] at z
    grind
  · by_cases k : a ∈ fτ'
    · exact (hn a k).2
    · refine rF a ?_
      simp only [List.mem_append] at m
      grind
end
end Ev
namespace Ev
open PySem PySem.Spec PyProof.Rows L2
section
variable {P : Program} {w : World} {K : PySem.W.Frag} {mg : Str → Option Value} {base : Heap} {k : Nat} {N : List Str} {sc : Scope} {U : BF → Bool} {G : List Nat → Option T} {C : List Nat → List T → Option (T × Own)}
variable {X : Cx} {H0 F0 H H' F : Hp} {ρ ρ' : Env} {σ : L2.St} {τ : List Gp}
/-- one reading for every context of the kind -/
theorem sv_all {d : Den} {pe : Expr} (h : SV P w K mg base k N sc d pe) : ∃ te : TE, (∀ X, XOk P w K mg base k N sc X → PE X pe te) ∧ ∀ H0 F0 ρ σ τ H r Q, I K H0 F0 ρ σ τ H → (d.c = true → NoV τ) → d.v ρ = some r →
    (∀ v H', I K H0 F0 r.ρ σ (g1 r.o r.t v :: τ) H' → (∀ i, r.o = .view i → σ[i]? = some (some v)) → Q v H') → te σ H Q :=
  ⟨fun σ H Q => ∀ X ok, Classical.choose (h X ok) σ H Q, fun X ok => ⟨fun pins s σ H Q I w => (Classical.choose_spec (h X ok)).1.run pins s σ H Q I (w X ok)⟩,
    fun H0 F0 ρ σ τ H r Q hI hv he q X ok => (Classical.choose_spec (h X ok)).2 H0 F0 ρ σ τ H r Q hI hv he q⟩
theorem st_all {d : Den} {pe : Expr} (h : ST P w K mg base k N sc d pe) : ∃ te : TT, (∀ X, XOk P w K mg base k N sc X → PT X pe te) ∧ ∀ H0 F0 ρ σ τ H r Q, I K H0 F0 ρ σ τ H → (d.c = true → NoV τ) → d.t ρ = some r →
    (∀ H', I K H0 F0 r.2 σ τ H' → Q r.1 H') → te σ H Q :=
  ⟨fun σ H Q => ∀ X ok, Classical.choose (h X ok) σ H Q, fun X ok => ⟨fun pins s σ H Q I w => (Classical.choose_spec (h X ok)).1.run pins s σ H Q I (w X ok)⟩,
    fun H0 F0 ρ σ τ H r Q hI hv he q X ok => (Classical.choose_spec (h X ok)).2 H0 F0 ρ σ τ H r Q hI hv he q⟩
inductive STs' (P : Program) (w : World) (K : PySem.W.Frag) (mg : Str → Option Value) (base : Heap) (k : Nat) (N : List Str) (sc : Scope) : List Den → List Expr → Prop
  | nil : STs' P w K mg base k N sc [] []
  | one {d : Den} {p : Expr} (h : ST P w K mg base k N sc d p) : STs' P w K mg base k N sc [d] [p]
theorem ifs_all {ds : List Den} {ps : List Expr} (h : STs' P w K mg base k N sc ds ps) : ∃ tt : TT, (∀ X, XOk P w K mg base k N sc X → PTs X ps tt) ∧ ∀ H0 F0 ρ σ τ H r Q, I K H0 F0 ρ σ τ H → NoV τ → evTs ds ρ = some r →
    (∀ H', I K H0 F0 r.2 σ τ H' → Q r.1 H') → tt σ H Q := by
  cases h with
  | nil => exact ⟨tYes, fun _ _ => pts_nil, fun H0 F0 ρ σ τ H r Q hI _ he q => by cases he; exact q _ hI⟩
  | one h =>
    obtain ⟨te, h1, h2⟩ := st_all h
    exact ⟨te, fun X ok => pts_one (h1 X ok), fun H0 F0 ρ σ τ H r Q hI nv he q => h2 _ _ _ _ _ _ _ _ hI (fun _ => nv) he q⟩
theorem blk_ok {scope : Scope} {s : Shared} {cl : List (Str × Addr)} {A : Addr} {fp : List Addr} (ok : XOk P w K mg base k N sc X) : XOk P w K mg base k N (relS scope sc) (X.blk s H scope (compEnvC scope cl A X.env) fp) where
  prog := ok.prog
  w_ := ok.w_
  K_ := ok.K_
  mg_ := ok.mg_
  base_ := ok.base_
  N_ := ok.N_
  nd := ok.nd
  sc_ := by rw [← ok.sc_]; rfl
  calm := ok.calm
  room := ok.room
  gd := ok.gd
theorem blk_tok {scope : Scope} {s : Shared} {cl : List (Str × Addr)} {A : Addr} {fp : List Addr} (ok : XOk P w K mg base k N sc X) : TOk K N scope (X.blk s H scope (compEnvC scope cl A X.env) fp) where
  K_ := ok.K_
  N_ := ok.N_
  nd := ok.nd
  calm := ok.calm
  loc := fun x h => by
    unfold locB at h
    split at h
    · rename_i e
      have e2 : (compEnvC scope cl A X.env).scope.names.lookup x = some .local := lookup_relS_keep (by intro z; cases z) e
      exact ⟨.inl e2, .inr e2⟩
    · rename_i e
      have e2 : (compEnvC scope cl A X.env).scope.names.lookup x = some .cell := lookup_relS_keep (by intro z; cases z) e
      refine ⟨.inr e2, .inl ?_⟩
      show (scope.names.lookup x == some .cell) = true
      rw [e]; rfl
    · cases h
theorem I.rot {g : Gp} (h : I K H0 F0 ρ σ (g :: τ) H) {τ' : List Gp} (p : (g :: τ).Perm τ') : I K H0 F0 ρ σ τ' H := h.perm p
theorem lcLoop_len {own : List Nat} {bind : T → Env → Option Env} {tests : Env → Option (Bool × Env)} {elt : Env → Option R} : ∀ {xs acc : List T} {o : Own} {ρ : Env} {y : List T × Own × Env}, lcLoop own bind tests elt xs acc o ρ = some y → (o = .full ∨ o = .shal) → y.2.1 = .full ∨ y.2.1 = .shal
  | [], acc, o, ρ, y, e, h => by cases e; exact h
  | x :: xs, acc, o, ρ, y, e, h => by
    simp only [lcLoop] at e
    obtain ⟨ρ1, _, e⟩ := obind e
    obtain ⟨bρ, _, e⟩ := obind e
    split at e
    · obtain ⟨r, _, e⟩ := obind e
      split at e
      · exact lcLoop_len e (by unfold minO; split <;> simp)
      · cases e
    · exact lcLoop_len e h
theorem lc_all {elt it : E} {tg : Tg} {ifs : List E} {own : List (Str × Nat)} {pelt ptg pit : Expr} {pifs : List Expr} {scope : Scope}
    (hi : SI P w K mg base k N sc (den G C it) ptg pit) (hg : mG N scope tg ptg = true) (ht : tgIn (own.map (·.2)) tg = true)
    (hs : STs' P w K mg base k N (relS scope sc) (denL G C ifs) pifs) (he : SV P w K mg base k N (relS scope sc) (den G C elt) pelt) : ∀ X, XOk P w K mg base k N sc X → ∃ wi tt te, PI X ptg pit wi ∧
      (∀ (s : Shared) (H : Hp) (A : Addr) (cl : List (Str × Addr)) (fp : List Addr), PG (X.blk s H scope (compEnvC scope cl A X.env) fp) ptg (gT K tg)) ∧ (∀ (s : Shared) (H : Hp) (A : Addr) (cl : List (Str × Addr)) (fp : List Addr), PTs (X.blk s H scope (compEnvC scope cl A X.env) fp) pifs tt) ∧
      (∀ (s : Shared) (H : Hp) (A : Addr) (cl : List (Str × Addr)) (fp : List Addr), PE (X.blk s H scope (compEnvC scope cl A X.env) fp) pelt te) ∧
      ∀ H0 F0 ρ σ τ H r (Q : VK), I K H0 F0 ρ σ τ H → NoV τ → (den G C (.lc elt tg it ifs (own.map (·.2)))).v ρ = some r → (∀ v H', I K H0 F0 r.ρ σ (g1 r.o r.t v :: τ) H' → r.o.isView = false → Q v H') →
        tLc wi (gT K tg) tt te (own.map (·.2)) σ H Q := fun X ok => by
  obtain ⟨wi, p1, q1⟩ := hi X ok
  obtain ⟨tt, p2, q2⟩ := ifs_all hs
  obtain ⟨te, p3, q3⟩ := sv_all he
  refine ⟨wi, tt, te, p1, fun s H A cl fp => pg_ok (blk_tok ok) hg, fun s H A cl fp => p2 _ (blk_ok ok), fun s H A cl fp => p3 _ (blk_ok ok), fun H0 F0 ρ σ τ H r Q hI nτ he q => ?_⟩
  generalize own.map (·.2) = ow at *
  simp only [den, valD] at he
  obtain ⟨x, e1, he⟩ := obind he
  obtain ⟨y, e2, rfl⟩ := omap he
  refine q1 _ _ _ _ _ _ x _ hI (fun _ => nτ) e1 fun J g H1 hW h1 D hD => ?_
  obtain ⟨xs, ρ1⟩ := x
  have hlk : ∀ i ∈ ow, ∀ t o, ρ1[i]? = some (some (t, o)) → ∃ v, σ[i]? = some (some v) := fun i _ t o e => by
    obtain ⟨v, ev, _⟩ := h1.look e
    exact ⟨v, ev⟩
  have h2 : I K H0 F0 (wipeE ow ρ1) (L2.wipe σ ow) (g1 .full (.lst []) (.ref D) :: g :: (savG ow ρ1 σ ++ τ)) (upd H1 D (.lst [])) := by
    have a := (h1.save ow).wipe ow
    have b : I K H0 F0 (wipeE ow ρ1) (L2.wipe σ ow) (g :: (savG ow ρ1 σ ++ τ)) H1 := a.perm List.perm_middle
    exact I.newLst (o := .full) (I.nil b) (.inl rfl) hD
  have nS : NoV (savG ow ρ1 σ ++ τ) := fun g m => by
    rcases List.mem_append.mp m with m | m
    · exact savG_nov _ _ _ g m
    · exact nτ g m
  refine ⟨fun i m H => m = xs.length - i ∧ i ≤ xs.length ∧ ∃ acc o ρi, lcLoop ow (fun x ρ => bindT tg x .cold ρ) (fun ρ => evTs (denL G C ifs) ρ) (fun ρ => ((den G C elt).v ρ).bind val) (xs.drop i) acc o ρi = some y ∧ (o = .full ∨ o = .shal) ∧
    I K H0 F0 (wipeE ow ρi) (L2.wipe σ ow) (g1 o (.lst acc) (.ref D) :: g :: (savG ow ρ1 σ ++ τ)) H, ⟨xs.length, by simp, Nat.zero_le _, [], .full, ρ1, by simpa using e2, .inl rfl, h2⟩, ?_⟩
  rintro i m H5 ⟨rfl, hle, acc, o, ρi, el, ho, h3⟩
  by_cases hlt : i < xs.length
  · refine .inr ⟨hW.go i _ _ _ _ _ _ h3.swap hlt, _, fun H' nx => ⟨xs.length - (i + 1), by omega, nx⟩, fun v H6 hy => ?_⟩
    rw [List.drop_eq_getElem_cons hlt] at el
    simp only [lcLoop] at el
    obtain ⟨ρ2, e3, el⟩ := obind el
    obtain ⟨bρ, e4, el⟩ := obind el
    have h4 := hW.yld i xs[i] _ _ _ _ _ _ v H6 h3.swap (List.getElem?_eq_getElem hlt) hy
    refine gT_ok h4 rfl e3 fun σ2 h5 off => ?_
    have w2 : L2.wipe σ2 ow = L2.wipe σ ow := (off ow ht).trans wipe_idem
    have n5 : NoV (g :: g1 o (.lst acc) (.ref D) :: (savG ow ρ1 σ ++ τ)) := fun z m => by
      rcases List.mem_cons.mp m with rfl | m
      · rw [hW.cold]; rfl
      rcases List.mem_cons.mp m with rfl | m
      · rcases ho with rfl | rfl <;> rfl
      · exact nS z m
    refine ⟨w2, q2 _ _ _ _ _ _ bρ _ h5 n5 e4 fun H7 h6 => ?_⟩
    obtain ⟨b, ρ3⟩ := bρ
    cases b with
    | false =>
      simp only [Bool.false_eq_true, if_false] at el ⊢
      have h7 := h6.swap.wipe ow
      rw [w2] at h7
      exact ⟨trivial, hlt, acc, o, ρ3, el, ho, h7⟩
    | true =>
      simp only [if_true] at el ⊢
      obtain ⟨rr, e5, el⟩ := obind el
      obtain ⟨r0, e6, e7⟩ := obind e5
      split at el
      · rename_i hz
        refine q3 _ _ _ _ _ _ r0 _ h6 (fun _ => n5) e6 fun v2 H8 h7 l7 => ?_
        obtain ⟨nv, h8⟩ := h7.val e7 l7
        have h9 := (h8.perm (τ' := g1 rr.o rr.t v2 :: g1 o (.lst acc) (.ref D) :: g :: (savG ow ρ1 σ ++ τ)) ((List.Perm.swap _ _ _).cons _)).app ho nv (fun z m => by
          rcases List.mem_cons.mp m with rfl | m
          · rw [hW.cold]; rfl
          · exact nS z m)
        obtain ⟨ws, hD8, hl, h10⟩ := h9
        refine ⟨ws, hD8, by omega, trivial, hlt, _, _, rr.ρ, el, by unfold minO; split <;> simp, ?_⟩
        have h11 := h10.wipe ow
        rw [w2] at h11
        exact h11
      · cases el
  · have ei : i = xs.length := by omega
    subst ei
    refine .inl ⟨hW.stop _ _ _ _ _ _ _ h3.swap (Nat.le_refl _), ?_⟩
    rw [List.drop_length] at el
    simp only [lcLoop, Option.some.injEq] at el
    subst el
    have h4 : I K H0 F0 (wipeE ow ρi) (L2.wipe σ ow) (savG ow ρ1 σ ++ (g1 o (.lst acc) (.ref D) :: τ)) H5 := h3.drop2.perm List.perm_middle.symm
    have h5 := I.back h4 (by rw [h4.len, wipe_length, ← h1.len]) hlk
    rw [rest_wipe] at h5
    refine q _ _ h5 ?_
    rcases ho with rfl | rfl <;> rfl
theorem sv_lc {elt it : E} {tg : Tg} {ifs : List E} {own : List (Str × Nat)} {pelt ptg pit : Expr} {pifs : List Expr} {scope : Scope} {pos : Pos}
    (hi : SI P w K mg base k N sc (den G C it) ptg pit) (hb : blkC N sc scope own = true) (hg : mG N scope tg ptg = true) (ht : tgIn (own.map (·.2)) tg = true)
    (hs : STs' P w K mg base k N (relS scope sc) (denL G C ifs) pifs) (he : SV P w K mg base k N (relS scope sc) (den G C elt) pelt) (hf : ∀ env x, foldedSetIterable pit env x = pure x) :
    SV P w K mg base k N sc (den G C (.lc elt tg it ifs (own.map (·.2)))) (.ListComp pelt [⟨ptg, pit, pifs, 0⟩] scope pos) := fun X ok => by
  obtain ⟨wi, tt, te, p1, p2, p3, p4, q1⟩ := lc_all hi hg ht hs he X ok
  exact ⟨_, pe_lc (own := own) ok.calm (by rw [ok.N_]; exact ok.nd) p1 (blkOk_by (by rw [ok.N_, ok.sc_]; exact hb)) p2 p3 p4 (hf X.env), fun H0 F0 ρ σ τ H r Q hI hv he q =>
    q1 _ _ _ _ _ _ r _ hI (hv rfl) he fun v H' h n => q v H' h (nolink n)⟩
end
end Ev
namespace Ev
open PySem PySem.Spec PyProof.Rows L2
section
variable {P : Program} {w : World} {K : PySem.W.Frag} {mg : Str → Option Value} {base : Heap} {k : Nat} {N : List Str} {U : BF → Bool} {G : List Nat → Option T} {C : List Nat → List T → Option (T × Own)}
/-- the reading of a plain number: the heap stays -/
def SP_ (P : Program) (w : World) (K : PySem.W.Frag) (mg : Str → Option Value) (base : Heap) (k : Nat) (N : List Str) (sc : Scope) (d : Den) (pe : Expr) : Prop := ∀ X, XOk P w K mg base k N sc X → ∃ t, PE X pe t ∧ ∀ H0 F0 ρ σ τ H i o ρ' (Q : VK), I K H0 F0 ρ σ τ H → d.v ρ = some ⟨.int i, o, ρ'⟩ → ρ' = ρ ∧ (Q (.int i) H → t σ H Q)
theorem share2_int {g : T → T → Option T} {t u : T} {o q o' : Own} {ρ ρ' : Env} {i : Int} (h : shareR2 g t o u q ρ = some ⟨.int i, o', ρ'⟩) : g t u = some (.int i) ∧ ρ' = ρ := by
  unfold shareR2 at h
  obtain ⟨y, ey, h⟩ := obind h
  split at h
  · cases h; exact ⟨ey, rfl⟩
  · split at h
    · split at h
      · cases h
      · obtain ⟨_, _, h⟩ := obind h
        obtain ⟨_, _, h⟩ := obind h
        obtain ⟨z, _, h⟩ := obind h
        split at h <;> cases h
    · obtain ⟨_, _, h⟩ := obind h
      obtain ⟨_, _, h⟩ := obind h
      obtain ⟨z, _, h⟩ := obind h
      split at h <;> cases h
theorem binR_int {op : BO} {t u : T} {o q o' : Own} {ρ ρ' : Env} {i : Int} (h : binR op t o u q ρ = some ⟨.int i, o', ρ'⟩) : binV op t u = some (.int i) ∧ ρ' = ρ := by
  unfold binR at h
  split at h
  · obtain ⟨y, ey, h⟩ := omap h
    cases h; exact ⟨ey, rfl⟩
  · exact share2_int h
theorem pint : ∀ (e : E) (sc : Scope) (pe : Expr), isPI e = true → mE U N sc e pe = true → SP_ P w K mg base k N sc (den G C e) pe ∧ (den G C e).c = false ∧ PlainIx pe
  | .int j, sc, pe, _, h => by
    unfold mE at h
    split at h
    · have e := of_decide_eq_true h
      subst e
      refine ⟨fun X ok => ⟨_, pe_int, fun H0 F0 ρ σ τ H i o ρ' Q hI he => ?_⟩, rfl, fun _ _ => rfl⟩
      simp only [den, valD, Option.some.injEq, R.mk.injEq, T.int.injEq] at he
      obtain ⟨rfl, _, rfl⟩ := he
      exact ⟨rfl, fun q => q⟩
    · cases h
  | .var j, sc, pe, _, h => by
    unfold mE at h
    split at h
    · obtain ⟨h1, h2, h3, h4⟩ := nmOf h
      refine ⟨fun X ok => ⟨tVar j, pe_var (by rw [ok.N_]; exact h1) (by rw [ok.sc_]; exact h2) h3 h4, fun H0 F0 ρ σ τ H i o ρ' Q hI he => ?_⟩, rfl, fun _ _ => rfl⟩
      simp only [den, valD] at he
      split at he
      · rename_i t o1 e
        obtain ⟨v, ev, nv, hvw, _, hn⟩ := hI.look e
        split at he
        · rename_i n
          cases he
          refine ⟨rfl, fun q => ⟨v, ev, ?_⟩⟩
          rw [(hn n).isInt]; exact q
        · rename_i n
          cases he
          exact absurd rfl n
      · cases he
    · cases h
  | .bin op a b, sc, pe, hp, h => by
    unfold mE at h
    split at h
    · simp only [Bool.and_eq_true, decide_eq_true_eq] at h
      obtain ⟨⟨e, h1⟩, h2⟩ := h
      subst e
      have hop : (op = .add ∨ op = .sub) ∧ isPI a = true ∧ isPI b = true := by
        cases op <;> simp [isPI] at hp <;> simp [hp]
      obtain ⟨hop, pa, pb⟩ := hop
      obtain ⟨i1, c1, _⟩ := pint a sc _ pa h1
      obtain ⟨i2, c2, _⟩ := pint b sc _ pb h2
      refine ⟨fun X ok => ?_, by simp [den, valD, c1, c2], fun _ _ => rfl⟩
      obtain ⟨ta, p1, q1⟩ := i1 X ok
      obtain ⟨tb, p2, q2⟩ := i2 X ok
      refine ⟨_, pe_op (opB op) p1 p2, fun H0 F0 ρ σ τ H i o ρ' Q hI he => ?_⟩
      simp only [den, valD, c2] at he
      obtain ⟨r0, e1, he⟩ := obind he
      obtain ⟨ra, e0, he⟩ := obind he
      cases e0
      obtain ⟨rb, e2, he⟩ := obind he
      split at he
      · obtain ⟨eb, rfl⟩ := binR_int he
        obtain ⟨ta0, oa, ρa⟩ := r0
        obtain ⟨tb0, ob, ρb⟩ := rb
        have key : ∃ x y, ta0 = .int x ∧ tb0 = .int y ∧ ((op = .add ∧ i = x + y) ∨ (op = .sub ∧ i = x - y)) := by
          rcases hop with rfl | rfl
          · cases ta0 <;> cases tb0 <;> simp only [binV] at eb <;> first | (cases eb; done) | (split at eb <;> cases eb; done) | skip
            cases eb
            exact ⟨_, _, rfl, rfl, .inl ⟨rfl, rfl⟩⟩
          · cases ta0 <;> cases tb0 <;> simp only [binV] at eb <;> first | (cases eb; done) | skip
            cases eb
            exact ⟨_, _, rfl, rfl, .inr ⟨rfl, rfl⟩⟩
        obtain ⟨x, y, rfl, rfl, hxy⟩ := key
        obtain ⟨z1, z2⟩ := q1 H0 F0 ρ σ τ H x oa ρa (fun v H1 => tb σ H1 fun v2 H2 => rB X.K op v v2 H2 Q) hI e1
        subst z1
        obtain ⟨z3, z4⟩ := q2 H0 F0 _ σ τ H y ob ρb (fun v2 H2 => rB X.K op (.int x) v2 H2 Q) hI e2
        subst z3
        refine ⟨rfl, fun q => z2 (z4 ?_)⟩
        rcases hxy with ⟨rfl, rfl⟩ | ⟨rfl, rfl⟩
        · exact .inl ⟨x, y, rfl, rfl, q⟩
        · exact ⟨x, y, rfl, rfl, q⟩
      · cases he
    · cases h
  | .bl _, _, _, hp, _ => by simp [isPI] at hp
  | .non, _, _, hp, _ => by simp [isPI] at hp
  | .str _, _, _, hp, _ => by simp [isPI] at hp
  | .mov _, _, _, hp, _ => by simp [isPI] at hp
  | .glob _, _, _, hp, _ => by simp [isPI] at hp
  | .neg a, sc, pe, hp, h => by
    unfold mE at h
    split at h
    · obtain ⟨i1, c1, _⟩ := pint a sc _ (by simpa [isPI] using hp) h
      refine ⟨fun X ok => ?_, by simp [den, valD, c1], fun _ _ => rfl⟩
      obtain ⟨ta, p1, q1⟩ := i1 X ok
      refine ⟨_, pe_un un_neg p1, fun H0 F0 ρ σ τ H i o ρ' Q hI he => ?_⟩
      simp only [den, valD] at he
      obtain ⟨ra, e1, he⟩ := obind he
      obtain ⟨t, o1, ρ1⟩ := ra
      cases t with
      | int j =>
        cases he
        have z1 := (q1 H0 F0 ρ σ τ H j o1 _ (fun _ _ => True) hI e1).1
        subst z1
        exact ⟨rfl, fun q => (q1 H0 F0 _ σ τ H j o1 _ _ hI e1).2 ⟨j, rfl, q⟩⟩
      | _ => cases he
    · cases h
  | .notv _, _, _, hp, _ => by simp [isPI] at hp
  | .cmp _ _ _, _, _, hp, _ => by simp [isPI] at hp
  | .chain _ _ _ _ _, _, _, hp, _ => by simp [isPI] at hp
  | .andv _, _, _, hp, _ => by simp [isPI] at hp
  | .orv _, _, _, hp, _ => by simp [isPI] at hp
  | .ife _ _ _, _, _, hp, _ => by simp [isPI] at hp
  | .tup _, _, _, hp, _ => by simp [isPI] at hp
  | .lst _, _, _, hp, _ => by simp [isPI] at hp
  | .ix _ _, _, _, hp, _ => by simp [isPI] at hp
  | .sl _ _ _, _, _, hp, _ => by simp [isPI] at hp
  | .rev _, _, _, hp, _ => by simp [isPI] at hp
  | .call _ _, _, _, hp, _ => by simp [isPI] at hp
  | .blt _ _, _, _, hp, _ => by simp [isPI] at hp
  | .isi _ _, _, _, hp, _ => by simp [isPI] at hp
  | .meth _ _ _, _, _, hp, _ => by simp [isPI] at hp
  | .lc _ _ _ _ _, _, _, hp, _ => by simp [isPI] at hp
  | .lc2 _ _ _ _ _ _ _ _ _, _, _, hp, _ => by simp [isPI] at hp
  | .pth _ _, _, _, hp, _ => by simp [isPI] at hp
  | .rng _, _, _, hp, _ => by simp [isPI] at hp
  | .zip _ _, _, _, hp, _ => by simp [isPI] at hp
  | .enum _, _, _, hp, _ => by simp [isPI] at hp
  | .revd _, _, _, hp, _ => by simp [isPI] at hp
/-- the text of a place: the places from the last -/
def mPath (U : BF → Bool) (N : List Str) (sc : Scope) (i : Nat) : List E → Expr → Bool
  | [], pe => match pe with
    | .Name x _ => nmB N sc i x
    | _ => false
  | e :: es, pe => match pe with
    | .Subscript po pk _ => isPI e && mE U N sc e pk && mPath U N sc i es po
    | _ => false
theorem denL_snoc {e : E} : ∀ es : List E, denL G C (es ++ [e]) = denL G C es ++ [den G C e]
  | [] => rfl
  | x :: es => by
    show den G C x :: denL G C (es ++ [e]) = _
    rw [denL_snoc es]; rfl
theorem evIs_snoc {d : Den} : ∀ {ds : List Den} {ρ : Env}, evIs (ds ++ [d]) ρ = (evIs ds ρ).bind fun x => (d.v x.2).bind fun r => match r.t with
    | .int k => some (x.1 ++ [k], r.ρ)
    | _ => none
  | [], ρ => by
    simp only [List.nil_append, evIs, Option.bind_some]
    cases h : d.v ρ with
    | none => rfl
    | some r =>
      obtain ⟨t, o, ρ1⟩ := r
      cases t <;> rfl
  | e :: ds, ρ => by
    simp only [List.cons_append, evIs]
    cases h : e.v ρ with
    | none => rfl
    | some r =>
      obtain ⟨t, o, ρ1⟩ := r
      cases t with
      | int k =>
        simp only [Option.bind_some, evIs_snoc (ds := ds)]
        cases h2 : evIs ds ρ1 with
        | none => rfl
        | some x =>
          simp only [Option.bind_some, Option.map_some]
          cases h3 : d.v x.2 with
          | none => rfl
          | some r2 =>
            obtain ⟨t2, o2, ρ2⟩ := r2
            cases t2 <;> rfl
      | _ => rfl
theorem path_ok {sc : Scope} {i : Nat} : ∀ (es : List E) (pe : Expr), mPath U N sc i es pe = true → ∀ X, XOk P w K mg base k N sc X → ∃ t, PE X pe t ∧ ∀ H0 F0 ρ σ τ H ks ρ' (Q : VK) v0 v, I K H0 F0 ρ σ τ H → evIs (denL G C es.reverse) ρ = some (ks, ρ') → σ[i]? = some (some v0) → Path K H v0 ks v → ρ' = ρ ∧ (Q v H → t σ H Q)
  | [], pe, h, X, ok => by
    unfold mPath at h
    split at h
    · obtain ⟨h1, h2, h3, h4⟩ := nmOf h
      refine ⟨tVar i, pe_var (by rw [ok.N_]; exact h1) (by rw [ok.sc_]; exact h2) h3 h4, fun H0 F0 ρ σ τ H ks ρ' Q v0 v hI he hv hp => ?_⟩
      simp only [List.reverse_nil, denL, evIs, Option.some.injEq, Prod.mk.injEq] at he
      obtain ⟨rfl, rfl⟩ := he
      cases hp
      exact ⟨rfl, fun q => ⟨_, hv, q⟩⟩
    · cases h
  | e :: es, pe, h, X, ok => by
    unfold mPath at h
    split at h
    · simp only [Bool.and_eq_true] at h
      obtain ⟨⟨h1, h2⟩, h3⟩ := h
      obtain ⟨i1, c1, pl⟩ := pint (P := P) (w := w) (K := K) (mg := mg) (base := base) (k := k) (G := G) (C := C) e sc _ h1 h2
      obtain ⟨ti, p1, q1⟩ := i1 X ok
      obtain ⟨tp, p2, q2⟩ := path_ok es _ h3 X ok
      refine ⟨_, pe_ix ix_seq p2 p1 pl, fun H0 F0 ρ σ τ H ks ρ' Q v0 v hI he hv hp => ?_⟩
      rw [List.reverse_cons, denL_snoc, evIs_snoc] at he
      obtain ⟨x, e1, he⟩ := obind he
      obtain ⟨r, e2, he⟩ := obind he
      obtain ⟨ks1, ρ1⟩ := x
      obtain ⟨t, o, ρ2⟩ := r
      cases t with
      | int kk =>
        cases he
        obtain ⟨a, ws, pp, hs, ha⟩ := hp.snoc
        obtain ⟨z1, z2⟩ := q2 H0 F0 ρ σ τ H ks1 ρ1 (fun v1 H1 => ti σ H1 fun v2 H2 => rIx X.K v1 v2 H2 Q) v0 _ hI e1 hv pp
        subst z1
        obtain ⟨z3, z4⟩ := q1 H0 F0 _ σ τ H kk o ρ2 (fun v2 H2 => rIx X.K (.ref a) v2 H2 Q) hI e2
        subst z3
        refine ⟨rfl, fun q => z2 (z4 ?_)⟩
        rw [ok.K_]
        rcases hs with hs | hs
        · exact .inl ⟨a, ws, kk, v, rfl, rfl, hs, ha, q⟩
        · exact .inr (.inl ⟨a, ws, kk, v, rfl, rfl, hs, ha, q⟩)
      | _ => cases he
    · cases h
end
section
variable {P : Program} {w : World} {K : PySem.W.Frag} {mg : Str → Option Value} {base : Heap} {k : Nat} {N : List Str} {U : BF → Bool} {G : List Nat → Option T} {C : List Nat → List T → Option (T × Own)}
variable {H0 F0 H : Hp} {ρ : Env} {σ : L2.St} {τ : List Gp}
theorem I.get : ∀ {ks : List Int} {t z : T} {v : V} {o : Own}, I K H0 F0 ρ σ (g1 o t v :: τ) H → getP ks t = some z → ∃ w o', Path K H v ks w ∧ I K H0 F0 ρ σ (g1 o' z w :: τ) H
  | [], t, z, v, o, h, e => by cases e; exact ⟨v, o, .nil, h⟩
  | k :: ks, t, z, v, o, h, e => by
    cases t with
    | lst xs =>
      simp only [getP] at e
      obtain ⟨x, e1, e2⟩ := obind e
      obtain ⟨a, ws, rfl, rd, hl, h2, _⟩ := h.kidsL
      unfold L2.atI at e1
      obtain ⟨j, e3, e4⟩ := obind e1
      obtain ⟨w, ew, h3⟩ := I.pick h2 e4
      obtain ⟨w', o', p, h4⟩ := I.get h3 e2
      refine ⟨w', o', .cons (.inl (.inl rd)) ?_ p, h4⟩
      unfold L2.atI
      rw [← hl, e3]
      exact ew
    | tup xs =>
      simp only [getP] at e
      obtain ⟨x, e1, e2⟩ := obind e
      obtain ⟨a, ws, rfl, rd, hl, h2⟩ := h.kidsT
      unfold L2.atI at e1
      obtain ⟨j, e3, e4⟩ := obind e1
      obtain ⟨w, ew, h3⟩ := I.pick h2 e4
      obtain ⟨w', o', p, h4⟩ := I.get h3 e2
      refine ⟨w', o', .cons (.inr rd) ?_ p, h4⟩
      unfold L2.atI
      rw [← hl, e3]
      exact ew
    | _ => simp [getP] at e
/-- (of what is shared: shared) -/
theorem I.getC : ∀ {ks : List Int} {t z : T} {v : V}, I K H0 F0 ρ σ (g1 .cold t v :: τ) H → getP ks t = some z → ∃ w, Path K H v ks w ∧ I K H0 F0 ρ σ (g1 .cold z w :: τ) H
  | [], t, z, v, h, e => by cases e; exact ⟨v, .nil, h⟩
  | k :: ks, t, z, v, h, e => by
    cases t with
    | lst xs =>
      simp only [getP] at e
      obtain ⟨x, e1, e2⟩ := obind e
      obtain ⟨a, ws, rfl, rd, hl, h2, _⟩ := h.kidsL
      unfold L2.atI at e1
      obtain ⟨j, e3, e4⟩ := obind e1
      obtain ⟨w, ew, h3⟩ := I.pick h2 e4
      obtain ⟨w', p, h4⟩ := I.getC h3 e2
      refine ⟨w', .cons (.inl (.inl rd)) ?_ p, h4⟩
      unfold L2.atI
      rw [← hl, e3]
      exact ew
    | tup xs =>
      simp only [getP] at e
      obtain ⟨x, e1, e2⟩ := obind e
      obtain ⟨a, ws, rfl, rd, hl, h2⟩ := h.kidsT
      unfold L2.atI at e1
      obtain ⟨j, e3, e4⟩ := obind e1
      obtain ⟨w, ew, h3⟩ := I.pick h2 e4
      obtain ⟨w', p, h4⟩ := I.getC h3 e2
      refine ⟨w', .cons (.inr rd) ?_ p, h4⟩
      unfold L2.atI
      rw [← hl, e3]
      exact ew
    | _ => simp [getP] at e
theorem mPs_path {sc : Scope} {i : Nat} : ∀ {es : List E} {pe : Expr}, mPs U N sc i es pe = mPath U N sc i es pe
  | [], pe => by
    cases pe <;> first | (simp only [mPs, mPath]; done) | (simp only [mPs, mPath]; rfl)
  | e :: es, pe => by
    cases pe <;> first | (simp only [mPs, mPath]; done) | (simp only [mPs, mPath]; rfl) | (simp only [mPs, mPath, mPs_path (es := es)]; done) | (simp only [mPs, mPath]; simp only [mPs_path (es := es)])
theorem denL_rev : ∀ {es : List E}, denL G C es.reverse = (denL G C es).reverse
  | [] => rfl
  | e :: es => by
    rw [List.reverse_cons, denL_snoc, denL_rev]
    show _ = (den G C e :: denL G C es).reverse
    rw [List.reverse_cons]
theorem sv_pth {sc : Scope} {i : Nat} {kr : List E} {pe : Expr} (hp : mPath U N sc i kr pe = true) : SV P w K mg base k N sc (den G C (.pth i kr)) pe := fun X ok => by
  obtain ⟨t, p1, q1⟩ := path_ok (G := G) (C := C) kr pe hp X ok
  refine ⟨t, p1, fun H0 F0 ρ σ τ H r Q hI hv he q => ?_⟩
  simp only [den, valD] at he
  split at he
  · rename_i tr o0 et
    obtain ⟨x, e1, he⟩ := obind he
    obtain ⟨z, e2, he⟩ := obind he
    split at he
    · rename_i hn
      cases he
      obtain ⟨ks, ρ1⟩ := x
      obtain ⟨v0, ev, _, hvw, _, _⟩ := hI.look et
      obtain ⟨w, o', pp, h2⟩ := I.get (hvw 0) e2
      have e1' : evIs (denL G C kr.reverse) ρ = some (ks, ρ1) := by rw [denL_rev]; exact e1
      exact (q1 H0 F0 ρ σ τ H ks ρ1 Q v0 w hI e1' ev pp).2 (q w H (h2.nl hn) (nolink rfl))
    · cases he
  · cases he
end
section
variable {P : Program} {w : World} {K : PySem.W.Frag} {mg : Str → Option Value} {base : Heap} {k : Nat} {N : List Str} {U : BF → Bool} {G : List Nat → Option T} {C : List Nat → List T → Option (T × Own)}
structure OKE (P : Program) (w : World) (K : PySem.W.Frag) (mg : Str → Option Value) (base : Heap) (k : Nat) (N : List Str) (sc : Scope) (e : E) (d : Den) (pe : Expr) : Prop where
  v : SV P w K mg base k N sc d pe
  t : ST P w K mg base k N sc d pe
  i : ∀ tg, (e.two = true → ∃ es k p, tg = .Tuple es k p) → SI P w K mg base k N sc d tg pe
  pl : Plain pe
/-- a plain value's form -/
theorem oke_of {sc : Scope} {e : E} {d : Den} {pe : Expr} (h : SV P w K mg base k N sc d pe) (ht : d.t = tOf d.v) (hi : d.i = iOf d.v) (tr : TruE pe) (pl : Plain pe) : OKE P w K mg base k N sc e d pe :=
  ⟨h, st_of h ht tr, fun tg _ => si_of h hi, pl⟩
theorem oke_tst {sc : Scope} {e : E} {d : Den} {pe : Expr} (h : SV P w K mg base k N sc d pe) (ht : ST P w K mg base k N sc d pe) (hi : d.i = iOf d.v) (pl : Plain pe) : OKE P w K mg base k N sc e d pe :=
  ⟨h, ht, fun tg _ => si_of h hi, pl⟩
theorem sv_none {sc : Scope} {d : Den} {pe : Expr} (h : ∀ ρ, d.v ρ = none) : SV P w K mg base k N sc d pe := fun X ok =>
  ⟨fun _ _ _ => False, ⟨fun _ _ _ _ _ _ z => z.elim⟩, fun H0 F0 ρ σ τ H r Q hI hv he q => by rw [h] at he; cases he⟩
theorem st_none {sc : Scope} {d : Den} {pe : Expr} (h : ∀ ρ, d.t ρ = none) : ST P w K mg base k N sc d pe := fun X ok =>
  ⟨fun _ _ _ => False, ⟨fun _ _ _ _ _ _ z => z.elim⟩, fun H0 F0 ρ σ τ H r Q hI hv he q => by rw [h] at he; cases he⟩
theorem oke_it {sc : Scope} {e : E} {d : Den} {pe : Expr} (h1 : ∀ ρ, d.v ρ = none) (h2 : ∀ ρ, d.t ρ = none) (hi : ∀ tg, (e.two = true → ∃ es k p, tg = .Tuple es k p) → SI P w K mg base k N sc d tg pe) (pl : Plain pe) : OKE P w K mg base k N sc e d pe :=
  ⟨sv_none h1, st_none h2, hi, pl⟩
theorem ascOf {s : List Nat} (h : ascB s = true) : Ascii s := by
  unfold ascB at h
  simp only [Bool.and_eq_true, decide_eq_true_eq, List.all_eq_true] at h
  exact h
theorem pe_nonE {X : Cx} {j : Nat} {pos : Pos} : PE X (.Constant .none j pos) (tC .non) := by
  exact pe_non
theorem isTp_of {N : List Str} {sc : Scope} {tg : Tg} {p : Expr} (h : tg.isTp = true) (m : mG N sc tg p = true) : ∃ es k q, p = .Tuple es k q := by
  cases tg with
  | nm i => cases h
  | tp ts =>
    unfold mG at m
    split at m
    · exact ⟨_, _, _, rfl⟩
    · cases m
theorem mEs_len : ∀ {es : List E} {ps : List Expr} {sc : Scope}, mEs U N sc es ps = true → es.length = ps.length
  | [], [], _, _ => rfl
  | [], _ :: _, _, h => by simp [mEs] at h
  | _ :: _, [], _, h => by simp [mEs] at h
  | e :: es, p :: ps, sc, h => by
    simp only [mEs, Bool.and_eq_true] at h
    simp [mEs_len h.2]
theorem STs.one {sc : Scope} {ds : List Den} {ps : List Expr} (h : STs P w K mg base k N sc ds ps) (hl : ps.length ≤ 1) : STs' P w K mg base k N sc ds ps := by
  cases h with
  | nil => exact .nil
  | cons h t =>
    cases t with
    | nil => exact .one h
    | cons _ _ => simp at hl
mutual
theorem okE (M : MOk K mg U G) (CO : COk P w K mg base k C) : ∀ (e : E) (sc : Scope) (pe : Expr), mE U N sc e pe = true → OKE P w K mg base k N sc e (den G C e) pe
  | .int i, sc, pe, h => by
    unfold mE at h
    split at h
    · have e := of_decide_eq_true h
      subst e
      exact oke_of (sv_const (v := .int i) (t := .int i) (fun X => pe_int) (fun ρ => by simp [den, valD]) (fun F H => by simp [Rp])) rfl rfl (fun _ _ => rfl) ⟨fun _ _ => rfl, fun _ _ => rfl, fun _ _ => rfl, fun _ _ _ => rfl, fun _ => rfl⟩
    · cases h
  | .bl i, sc, pe, h => by
    unfold mE at h
    split at h
    · have e := of_decide_eq_true h
      subst e
      exact oke_of (sv_const (v := .bl i) (t := .bl i) (fun X => pe_bl) (fun ρ => by simp [den, valD]) (fun F H => by simp [Rp])) rfl rfl (fun _ _ => rfl) ⟨fun _ _ => rfl, fun _ _ => rfl, fun _ _ => rfl, fun _ _ _ => rfl, fun _ => rfl⟩
    · cases h
  | .non, sc, pe, h => by
    unfold mE at h
    split at h
    · exact oke_of (sv_const (v := .non) (t := .non) (fun X => pe_nonE) (fun ρ => by simp [den, valD]) (fun F H => by simp [Rp])) rfl rfl (fun _ _ => rfl) ⟨fun _ _ => rfl, fun _ _ => rfl, fun _ _ => rfl, fun _ _ _ => rfl, fun _ => rfl⟩
    · cases h
  | .str s, sc, pe, h => by
    unfold mE at h
    split at h
    · simp only [Bool.and_eq_true, decide_eq_true_eq] at h
      obtain ⟨e, ha⟩ := h
      subst e
      exact oke_of (sv_const (v := .str (S8 s)) (t := .str s) (fun X => pe_str) (fun ρ => by simp [den, valD]) (fun F H => by simp [Rp, ascOf ha, S8])) rfl rfl (fun _ _ => rfl) ⟨fun _ _ => rfl, fun _ _ => rfl, fun _ _ => rfl, fun _ _ _ => rfl, fun _ => rfl⟩
    · cases h
  | .var i, sc, pe, h => by
    unfold mE at h
    split at h
    · exact oke_of (sv_var h) rfl rfl (fun _ _ => rfl) ⟨fun _ _ => rfl, fun _ _ => rfl, fun _ _ => rfl, fun _ _ _ => rfl, fun _ => rfl⟩
    · cases h
  | .mov i, sc, pe, h => by
    unfold mE at h
    split at h
    · exact oke_of (sv_mov h) rfl rfl (fun _ _ => rfl) ⟨fun _ _ => rfl, fun _ _ => rfl, fun _ _ => rfl, fun _ _ _ => rfl, fun _ => rfl⟩
    · cases h
  | .glob g, sc, pe, h => by
    unfold mE at h
    split at h
    · exact oke_of (sv_glob M h) rfl rfl (fun _ _ => rfl) ⟨fun _ _ => rfl, fun _ _ => rfl, fun _ _ => rfl, fun _ _ _ => rfl, fun _ => rfl⟩
    · cases h
  | .bin op a b, sc, pe, h => by
    unfold mE at h
    split at h
    · simp only [Bool.and_eq_true, decide_eq_true_eq] at h
      obtain ⟨⟨e, h1⟩, h2⟩ := h
      subst e
      exact oke_of (sv_bin (okE M CO a sc _ h1).v (okE M CO b sc _ h2).v) rfl rfl (fun _ _ => rfl) ⟨fun _ _ => rfl, fun _ _ => rfl, fun _ _ => rfl, fun _ _ _ => rfl, fun _ => rfl⟩
    · cases h
  | .neg a, sc, pe, h => by
    unfold mE at h
    split at h
    · exact oke_of (sv_neg (okE M CO a sc _ h).v) rfl rfl (fun _ _ => rfl) ⟨fun _ _ => rfl, fun _ _ => rfl, fun _ _ => rfl, fun _ _ _ => rfl, fun _ => rfl⟩
    · cases h
  | .notv a, sc, pe, h => by
    unfold mE at h
    split at h
    · exact oke_tst (sv_notv (okE M CO a sc _ h).v) (st_notv (okE M CO a sc _ h).t) rfl ⟨fun _ _ => rfl, fun _ _ => rfl, fun _ _ => rfl, fun _ _ _ => rfl, fun _ => rfl⟩
    · cases h
  | .cmp op a b, sc, pe, h => by
    unfold mE at h
    split at h
    · simp only [Bool.and_eq_true, decide_eq_true_eq] at h
      obtain ⟨⟨e, h1⟩, h2⟩ := h
      subst e
      have i1 := okE M CO a sc _ h1
      have i2 := okE M CO b sc _ h2
      exact oke_tst (sv_cmp i1.v i2.v (i2.pl.mark _)) (st_cmp i1.v i2.v (i2.pl.mark _)) rfl ⟨fun _ _ => rfl, fun _ _ => rfl, fun _ _ => rfl, fun _ _ _ => rfl, fun _ => rfl⟩
    · cases h
  | .chain op op' a b c, sc, pe, h => by
    unfold mE at h
    split at h
    · simp only [Bool.and_eq_true, decide_eq_true_eq] at h
      obtain ⟨⟨⟨⟨e, e'⟩, h1⟩, h2⟩, h3⟩ := h
      subst e e'
      have i1 := okE M CO a sc _ h1
      have i2 := okE M CO b sc _ h2
      have i3 := okE M CO c sc _ h3
      exact oke_tst (sv_chain i1.v i2.v i3.v (i3.pl.mark _)) (st_chain i1.v i2.v i3.v (i3.pl.mark _)) rfl ⟨fun _ _ => rfl, fun _ _ => rfl, fun _ _ => rfl, fun _ _ _ => rfl, fun _ => rfl⟩
    · cases h
  | .andv es, sc, pe, h => by
    unfold mE at h
    split at h
    · have i1 := okEs M CO es sc _ h
      exact oke_tst (sv_and i1.1) (st_and i1.2) rfl ⟨fun _ _ => rfl, fun _ _ => rfl, fun _ _ => rfl, fun _ _ _ => rfl, fun _ => rfl⟩
    · cases h
  | .orv es, sc, pe, h => by
    unfold mE at h
    split at h
    · have i1 := okEs M CO es sc _ h
      exact oke_tst (sv_or i1.1) (st_or i1.2) rfl ⟨fun _ _ => rfl, fun _ _ => rfl, fun _ _ => rfl, fun _ _ _ => rfl, fun _ => rfl⟩
    · cases h
  | .ife c a b, sc, pe, h => by
    unfold mE at h
    split at h
    · simp only [Bool.and_eq_true] at h
      obtain ⟨⟨h1, h2⟩, h3⟩ := h
      exact oke_tst (sv_ife (okE M CO c sc _ h1).t (okE M CO a sc _ h2).v (okE M CO b sc _ h3).v) (st_none fun _ => rfl) rfl ⟨fun _ _ => rfl, fun _ _ => rfl, fun _ _ => rfl, fun _ _ _ => rfl, fun _ => rfl⟩
    · cases h
  | .tup es, sc, pe, h => by
    unfold mE at h
    split at h
    · exact oke_of (sv_tup (okEs M CO es sc _ h).1) rfl rfl (fun _ _ => rfl) ⟨fun _ _ => rfl, fun _ _ => rfl, fun _ _ => rfl, fun _ _ _ => rfl, fun _ => rfl⟩
    · cases h
  | .lst es, sc, pe, h => by
    unfold mE at h
    split at h
    · exact oke_of (sv_lst (okEs M CO es sc _ h).1) rfl rfl (fun _ _ => rfl) ⟨fun _ _ => rfl, fun _ _ => rfl, fun _ _ => rfl, fun _ _ _ => rfl, fun _ => rfl⟩
    · cases h
  | .ix a i, sc, pe, h => by
    unfold mE at h
    split at h
    · simp only [Bool.and_eq_true] at h
      have i2 := okE M CO i sc _ h.2
      exact oke_of (sv_ix (okE M CO a sc _ h.1).v i2.v i2.pl.ix) rfl rfl (fun _ _ => rfl) ⟨fun _ _ => rfl, fun _ _ => rfl, fun _ _ => rfl, fun _ _ _ => rfl, fun _ => rfl⟩
    · cases h
  | .sl a lo hi, sc, pe, h => by
    unfold mE at h
    split at h
    · simp only [Bool.and_eq_true] at h
      obtain ⟨⟨h1, h2⟩, h3⟩ := h
      exact oke_of (sv_sl (okE M CO a sc _ h1).v (okEs M CO lo sc _ h2).1 (okEs M CO hi sc _ h3).1) rfl rfl (fun _ _ => rfl) ⟨fun _ _ => rfl, fun _ _ => rfl, fun _ _ => rfl, fun _ _ _ => rfl, fun _ => rfl⟩
    · cases h
  | .rev a, sc, pe, h => by
    unfold mE at h
    split at h
    · exact oke_of (sv_rev (okE M CO a sc _ h).v) rfl rfl (fun _ _ => rfl) ⟨fun _ _ => rfl, fun _ _ => rfl, fun _ _ => rfl, fun _ _ _ => rfl, fun _ => rfl⟩
    · cases h
  | .call f es, sc, pe, h => by
    unfold mE at h
    split at h
    · simp only [Bool.and_eq_true] at h
      exact oke_of (sv_call CO h.1.1 (by simpa using h.1.2) (okEs M CO es sc _ h.2).1) rfl rfl (fun _ _ => rfl) ⟨fun _ _ => rfl, fun _ _ => rfl, fun _ _ => rfl, fun _ _ _ => rfl, fun _ => rfl⟩
    · cases h
  | .blt f es, sc, pe, h => by
    unfold mE at h
    split at h
    · simp only [Bool.and_eq_true] at h
      exact oke_of (sv_blt M h.1.1.2 (fun e => by simpa [e] using h.1.2) h.1.1.1 (okEs M CO es sc _ h.2).1) rfl rfl (fun _ _ => rfl) ⟨fun _ _ => rfl, fun _ _ => rfl, fun _ _ => rfl, fun _ _ _ => rfl, fun _ => rfl⟩
    · cases h
  | .isi a c, sc, pe, h => by
    unfold mE at h
    split at h
    · simp only [Bool.and_eq_true] at h
      have i1 := okE M CO a sc _ h.2
      exact oke_of (sv_isi M h.1.1 h.1.2 i1.v i1.pl) rfl rfl (fun _ _ => rfl) ⟨fun _ _ => rfl, fun _ _ => rfl, fun _ _ => rfl, fun _ _ _ => rfl, fun _ => rfl⟩
    · cases h
  | .meth f o es, sc, pe, h => by
    unfold mE at h
    split at h
    · simp only [Bool.and_eq_true, decide_eq_true_eq] at h
      obtain ⟨⟨⟨e, hl⟩, h1⟩, h2⟩ := h
      have i1 := okE M CO o sc _ h1
      have i2 := okEs M CO es sc _ h2
      have hn := mEs_len h2
      match es, hn, i2, h2 with
      | [a], _, i2, h2 =>
        have z : SVs P w K mg base k N sc [den G C a] _ := i2.1
        cases z with
        | cons hv pl _ => exact oke_of (sv_meth e hl i1.v i1.pl hv pl) rfl rfl (fun _ _ => rfl) ⟨fun _ _ => rfl, fun _ _ => rfl, fun _ _ => rfl, fun _ _ _ => rfl, fun _ => rfl⟩
    · cases h
  | .lc elt tg it ifs own, sc, pe, h => by
    unfold mE at h
    split at h
    · simp only [Bool.and_eq_true, decide_eq_true_eq] at h
      obtain ⟨⟨⟨⟨⟨⟨⟨⟨h1, h2⟩, ht⟩, h3⟩, h4⟩, h5⟩, h6⟩, h7⟩, h8⟩ := h
      have i1 := okE M CO it sc _ h3
      have i2 := okEs M CO ifs _ _ h6
      have i3 := okE M CO elt _ _ h7
      have z := sv_lc (G := G) (C := C) (elt := elt) (it := it) (pos := by assumption) (i1.i _ fun e => isTp_of (by rw [e] at ht; simpa using ht) h4) h1 h4 (by rw [h2]; exact h5) (i2.2.one h8) i3.v i1.pl.fsi
      rw [h2] at z
      exact oke_of z rfl rfl (fun _ _ => rfl) ⟨fun _ _ => rfl, fun _ _ => rfl, fun _ _ => rfl, fun _ _ _ => rfl, fun _ => rfl⟩
    · cases h
  | .lc2 _ _ _ _ _ _ _ _ _, sc, pe, h => by simp [mE] at h
  | .pth i kr, sc, pe, h => by
    unfold mE at h
    simp only [Bool.and_eq_true] at h
    obtain ⟨h1, h2⟩ := h
    cases kr with
    | nil => simp at h1
    | cons e es =>
      rw [mPs_path] at h2
      have sv := sv_pth (P := P) (w := w) (K := K) (mg := mg) (base := base) (k := k) (G := G) (C := C) h2
      unfold mPath at h2
      split at h2
      · exact oke_of sv rfl rfl (fun _ _ => rfl) ⟨fun _ _ => rfl, fun _ _ => rfl, fun _ _ => rfl, fun _ _ _ => rfl, fun _ => rfl⟩
      · cases h2
  | .rng es, sc, pe, h => by
    unfold mE at h
    split at h
    · simp only [Bool.and_eq_true] at h
      exact oke_it (fun _ => rfl) (fun _ => rfl) (fun tg _ => si_rng M h.1 (okEs M CO es sc _ h.2).1) ⟨fun _ _ => rfl, fun _ _ => rfl, fun _ _ => rfl, fun _ _ _ => rfl, fun _ => rfl⟩
    · cases h
  | .zip a b, sc, pe, h => by
    unfold mE at h
    split at h
    · simp only [Bool.and_eq_true] at h
      have i1 := okE M CO a sc _ h.1.2
      have i2 := okE M CO b sc _ h.2
      refine oke_it (fun _ => rfl) (fun _ => rfl) (fun tg ht => ?_) ⟨fun _ _ => rfl, fun _ _ => rfl, fun _ _ => rfl, fun _ _ _ => rfl, fun _ => rfl⟩
      obtain ⟨es, kk, p, rfl⟩ := ht rfl
      exact si_zip M h.1.1 i1.v i1.pl i2.v i2.pl
    · cases h
  | .enum a, sc, pe, h => by
    unfold mE at h
    split at h
    · simp only [Bool.and_eq_true] at h
      have i1 := okE M CO a sc _ h.2
      refine oke_it (fun _ => rfl) (fun _ => rfl) (fun tg ht => ?_) ⟨fun _ _ => rfl, fun _ _ => rfl, fun _ _ => rfl, fun _ _ _ => rfl, fun _ => rfl⟩
      obtain ⟨es, kk, p, rfl⟩ := ht rfl
      exact si_enum M h.1 i1.v i1.pl
    · cases h
  | .revd a, sc, pe, h => by
    unfold mE at h
    split at h
    · simp only [Bool.and_eq_true] at h
      have i1 := okE M CO a sc _ h.2
      exact oke_it (fun _ => rfl) (fun _ => rfl) (fun tg ht => si_revd M h.1 i1.v i1.pl) ⟨fun _ _ => rfl, fun _ _ => rfl, fun _ _ => rfl, fun _ _ _ => rfl, fun _ => rfl⟩
    · cases h
theorem okEs (M : MOk K mg U G) (CO : COk P w K mg base k C) : ∀ (es : List E) (sc : Scope) (ps : List Expr), mEs U N sc es ps = true → SVs P w K mg base k N sc (denL G C es) ps ∧ STs P w K mg base k N sc (denL G C es) ps
  | [], sc, ps, h => by
    unfold mEs at h
    split at h
    · exact ⟨.nil, .nil⟩
    · cases h
  | e :: es, sc, ps, h => by
    unfold mEs at h
    split at h
    · simp only [Bool.and_eq_true] at h
      have i1 := okE M CO e sc _ h.1
      have i2 := okEs M CO es sc _ h.2
      exact ⟨.cons i1.v i1.pl i2.1, .cons i1.t i2.2⟩
    · cases h
end
end
mutual
/-- constants and new lists and tuples of such -/
def isSA : E → Bool
  | .int _ => true
  | .bl _ => true
  | .non => true
  | .str _ => true
  | .lst es => isSAs es
  | .tup es => isSAs es
  | _ => false
def isSAs : List E → Bool
  | [] => true
  | e :: es => isSA e && isSAs es
end
section
variable {P : Program} {w : World} {K : PySem.W.Frag} {mg : Str → Option Value} {base : Heap} {k : Nat} {N : List Str} {U : BF → Bool} {G : List Nat → Option T} {C : List Nat → List T → Option (T × Own)}
/-- a value of constants, by the heap alone -/
def SVy (P : Program) (w : World) (K : PySem.W.Frag) (mg : Str → Option Value) (base : Heap) (k : Nat) (N : List Str) (sc : Scope) (d : Den) (pe : Expr) : Prop := ∀ X, XOk P w K mg base k N sc X → ∃ t, PE X pe t ∧ ∀ ρ r, d.v ρ = some r → r.o = .full ∧ r.ρ = ρ ∧
  ∀ σ H (Q : VK), (∀ H' v fy, Same H H' → (∀ a ∈ fy, H a = none) → fy.Nodup → (∀ F, Same F H → Rp K F H' .full r.t v fy) → Q v H') → t σ H Q
def SVys (P : Program) (w : World) (K : PySem.W.Frag) (mg : Str → Option Value) (base : Heap) (k : Nat) (N : List Str) (sc : Scope) (ds : List Den) (ps : List Expr) : Prop := ∀ X, XOk P w K mg base k N sc X → ∃ t, PA X ps t ∧ ∀ ρ x, evL ds ρ = some x → x.2.1 = .full ∧ x.2.2 = ρ ∧
  ∀ σ H (Q : List V → Hp → Prop), (∀ H' vs fy, Same H H' → (∀ a ∈ fy, H a = none) → fy.Nodup → (∀ F, Same F H → RpL K F H' .full x.1 vs fy) → Q vs H') → t σ H Q
theorem svy_const {sc : Scope} {d : Den} {pe : Expr} {v : V} {t : T} (hp : ∀ X, PE X pe (tC v)) (hd : ∀ ρ, d.v ρ = some ⟨t, .full, ρ⟩) (hr : ∀ F H, Rp K F H .full t v []) : SVy P w K mg base k N sc d pe := fun X ok =>
  ⟨tC v, hp X, fun ρ r he => by
    rw [hd] at he
    cases he
    exact ⟨rfl, rfl, fun σ H Q q => q H v [] (fun _ _ e => e) (by simp) (by simp) (fun F s => hr F H)⟩⟩
mutual
theorem okY (M : MOk K mg U G) (CO : COk P w K mg base k C) : ∀ (e : E) (sc : Scope) (pe : Expr), isSA e = true → mE U N sc e pe = true → SVy P w K mg base k N sc (den G C e) pe
  | .int i, sc, pe, _, h => by
    unfold mE at h
    split at h
    · have e := of_decide_eq_true h
      subst e
      exact svy_const (v := .int i) (t := .int i) (fun X => pe_int) (fun ρ => by simp [den, valD]) (fun F H => by simp [Rp])
    · cases h
  | .bl i, sc, pe, _, h => by
    unfold mE at h
    split at h
    · have e := of_decide_eq_true h
      subst e
      exact svy_const (v := .bl i) (t := .bl i) (fun X => pe_bl) (fun ρ => by simp [den, valD]) (fun F H => by simp [Rp])
    · cases h
  | .non, sc, pe, _, h => by
    unfold mE at h
    split at h
    · exact svy_const (v := .non) (t := .non) (fun X => pe_nonE) (fun ρ => by simp [den, valD]) (fun F H => by simp [Rp])
    · cases h
  | .str s, sc, pe, _, h => by
    unfold mE at h
    split at h
    · simp only [Bool.and_eq_true, decide_eq_true_eq] at h
      obtain ⟨e, ha⟩ := h
      subst e
      exact svy_const (v := .str (S8 s)) (t := .str s) (fun X => pe_str) (fun ρ => by simp [den, valD]) (fun F H => by simp [Rp, ascOf ha, S8])
    · cases h
  | .lst es, sc, pe, hs, h => by
    unfold mE at h
    split at h
    · have i1 := okYs M CO es sc _ (by simpa [isSA] using hs) h
      intro X ok
      obtain ⟨t, p, q⟩ := i1 X ok
      refine ⟨_, pe_lst p, fun ρ r he => ?_⟩
      simp only [den, valD] at he
      obtain ⟨x, e1, he⟩ := obind he
      obtain ⟨o1, r1, q1⟩ := q ρ x e1
      split at he
      · rename_i hl
        cases he
        refine ⟨o1, r1, fun σ H Q qq => q1 σ H _ fun H1 vs fy s1 f1 n1 rp => ?_⟩
        have hlen := RpL.len (rp (fun _ => none) (fun _ _ e => by cases e))
        refine ⟨by omega, fun p hp => ?_⟩
        have own := RpL.own (rp (fun _ => none) (fun _ _ e => by cases e))
        refine qq _ _ ([p] ++ fy) (s1.trans (same_upd hp)) (fun a m => ?_) ?_ fun F s => ?_
        · rcases List.mem_append.mp m with m | m
          · simp at m; subst m; exact s1.free hp
          · exact f1 a m
        · refine List.nodup_append.mpr ⟨by simp, n1, fun a m b z e => ?_⟩
          simp at m; subst m; subst e
          obtain ⟨xs, e⟩ := own a z
          rw [hp] at e; cases e
        · simp only [Rp]
          have fF : ∀ a ∈ fy, F a = none := fun a m => s.free (f1 a m)
          exact ⟨p, vs, [p], fy, rfl, ⟨upd_same, s.free (s1.free hp), rfl⟩, RpL.keep ⟨fun _ _ e => e, fun _ _ e => SqT.mono (fun _ => Same.rd (same_upd hp)) e, fun a m => ⟨same_upd hp a, fF a m⟩, fun e => by cases e⟩ (rp F s), rfl⟩
      · cases he
    · cases h
  | .tup es, sc, pe, hs, h => by
    unfold mE at h
    split at h
    · have i1 := okYs M CO es sc _ (by simpa [isSA] using hs) h
      intro X ok
      obtain ⟨t, p, q⟩ := i1 X ok
      refine ⟨_, pe_tup p, fun ρ r he => ?_⟩
      simp only [den, valD] at he
      obtain ⟨x, e1, he⟩ := obind he
      obtain ⟨o1, r1, q1⟩ := q ρ x e1
      split at he
      · rename_i hl
        have hr : r = ⟨.tup x.1, .full, ρ⟩ := by
          rw [o1, r1] at he
          cases he
          unfold mk
          split <;> rfl
        subst hr
        refine ⟨rfl, rfl, fun σ H Q qq => q1 σ H _ fun H1 vs fy s1 f1 n1 rp => ?_⟩
        have hlen := RpL.len (rp (fun _ => none) (fun _ _ e => by cases e))
        refine ⟨by omega, fun p hp => ?_⟩
        refine qq _ _ fy (s1.trans (same_upd hp)) f1 n1 fun F s => ?_
        simp only [Rp]
        have fF : ∀ a ∈ fy, F a = none := fun a m => s.free (f1 a m)
        exact ⟨p, vs, rfl, .inl (.inl upd_same), RpL.keep ⟨fun _ _ e => e, fun _ _ e => SqT.mono (fun _ => Same.rd (same_upd hp)) e, fun a m => ⟨same_upd hp a, fF a m⟩, fun e => by cases e⟩ (rp F s)⟩
      · cases he
    · cases h
  | .var _, _, _, hp, _ => by simp [isSA] at hp
  | .bin _ _ _, _, _, hp, _ => by simp [isSA] at hp
  | .mov _, _, _, hp, _ => by simp [isSA] at hp
  | .glob _, _, _, hp, _ => by simp [isSA] at hp
  | .neg _, _, _, hp, _ => by simp [isSA] at hp
  | .notv _, _, _, hp, _ => by simp [isSA] at hp
  | .cmp _ _ _, _, _, hp, _ => by simp [isSA] at hp
  | .chain _ _ _ _ _, _, _, hp, _ => by simp [isSA] at hp
  | .andv _, _, _, hp, _ => by simp [isSA] at hp
  | .orv _, _, _, hp, _ => by simp [isSA] at hp
  | .ife _ _ _, _, _, hp, _ => by simp [isSA] at hp
  | .ix _ _, _, _, hp, _ => by simp [isSA] at hp
  | .sl _ _ _, _, _, hp, _ => by simp [isSA] at hp
  | .rev _, _, _, hp, _ => by simp [isSA] at hp
  | .call _ _, _, _, hp, _ => by simp [isSA] at hp
  | .blt _ _, _, _, hp, _ => by simp [isSA] at hp
  | .isi _ _, _, _, hp, _ => by simp [isSA] at hp
  | .meth _ _ _, _, _, hp, _ => by simp [isSA] at hp
  | .lc _ _ _ _ _, _, _, hp, _ => by simp [isSA] at hp
  | .lc2 _ _ _ _ _ _ _ _ _, _, _, hp, _ => by simp [isSA] at hp
  | .pth _ _, _, _, hp, _ => by simp [isSA] at hp
  | .rng _, _, _, hp, _ => by simp [isSA] at hp
  | .zip _ _, _, _, hp, _ => by simp [isSA] at hp
  | .enum _, _, _, hp, _ => by simp [isSA] at hp
  | .revd _, _, _, hp, _ => by simp [isSA] at hp
theorem okYs (M : MOk K mg U G) (CO : COk P w K mg base k C) : ∀ (es : List E) (sc : Scope) (ps : List Expr), isSAs es = true → mEs U N sc es ps = true → SVys P w K mg base k N sc (denL G C es) ps
  | [], sc, ps, _, h => by
    unfold mEs at h
    split at h
    · exact fun X ok => ⟨tNil, pa_nil, fun ρ x e => by
        cases e
        exact ⟨rfl, rfl, fun σ H Q q => q H [] [] (fun _ _ e => e) (by simp) (by simp) (fun F s => rfl)⟩⟩
    · cases h
  | e :: es, sc, ps, hs, h => by
    unfold mEs at h
    split at h
    · simp only [Bool.and_eq_true] at h
      simp only [isSAs, Bool.and_eq_true] at hs
      have i1 := okY M CO e sc _ hs.1 h.1
      have i2 := okYs M CO es sc _ hs.2 h.2
      have pl := (okE M CO e sc _ h.1).pl
      intro X ok
      obtain ⟨t1, p1, q1⟩ := i1 X ok
      obtain ⟨t2, p2, q2⟩ := i2 X ok
      refine ⟨tCons t1 t2, pa_cons p1 p2 (pl.star _ _), fun ρ x e => ?_⟩
      simp only [denL, evL] at e
      obtain ⟨r0, e1, eb⟩ := obind e
      clear e
      obtain ⟨a1, a2, a3⟩ := q1 ρ r0 e1
      obtain ⟨t0, o0, ρ0⟩ := r0
      dsimp only at a1 a2
      subst a1 a2
      obtain ⟨r, e1', ec⟩ := obind eb
      have er : r = ⟨t0, .full, ρ0⟩ := (Option.some.inj e1').symm
      subst er
      obtain ⟨y, e2, rfl⟩ := omap ec
      obtain ⟨b1, b2, b3⟩ := q2 _ y e2
      refine ⟨by show minO _ y.2.1 = _; rw [b1]; rfl, b2, fun σ H Q q => a3 σ H _ fun H1 v f1 s1 g1' n1 r1 => b3 σ H1 _ fun H2 vs f2 s2 g2 n2 r2 => ?_⟩
      have own := Rp.own (r1 (fun _ => none) (fun _ _ e => by cases e))
      refine q H2 (v :: vs) (f1 ++ f2) (s1.trans s2) (fun a m => ?_) (List.nodup_append.mpr ⟨n1, n2, fun a m b z e => ?_⟩) fun F s => ?_
      · rcases List.mem_append.mp m with m | m
        · exact g1' a m
        · exact s1.free (g2 a m)
      · subst e
        obtain ⟨xs, ee⟩ := own a m
        rw [g2 a z] at ee; cases ee
      · show RpL K F H2 .full (_ :: y.1) (v :: vs) _
        simp only [RpL]
        refine ⟨f1, f2, Rp.keep ⟨fun _ _ e => e, fun _ _ e => SqT.mono (fun _ => Same.rd s2) e, fun a m => ⟨s2 a, s.free (g1' a m)⟩, fun e => by cases e⟩ (r1 F s), r2 F (s.trans s1), rfl⟩
    · cases h
end
end
end Ev
namespace Ev
open PySem PySem.Spec PyProof.Rows L2
def isLc : Expr → Bool
  | .ListComp .. => true
  | .SetComp .. => true
  | .DictComp .. => true
  | _ => false
def isSl : Expr → Bool
  | .Slice .. => true
  | _ => false
def isStar : Expr → Bool
  | .Starred .. => true
  | _ => false
def swNone : Expr → Bool
  | .Tuple vs _ _ => vs.all (foldedForSure 8)
  | _ => true
section
variable (U : BF → Bool) (N : List Str)
def mOwn (sc : Scope) (i : Nat) (ixs : List E) (f : List Nat) (j : Nat) (jxs : List E) (pe : Expr) : Bool := match pe with
  | .UnaryOp .Not (.Call (.Name x _) [pa, pb] [] _) _ => gnB sc (S8 f) x && mPath U N sc i ixs.reverse pa && mPath U N sc j jxs.reverse pb
  | _ => false
def mOrs (sc : Scope) (i : Nat) (ixs : List E) (f : List Nat) (j : Nat) (jxs : List E) : List E → List Expr → Bool
  | [], pes => match pes with
    | [p] => mOwn U N sc i ixs f j jxs p
    | _ => false
  | c :: cs, pes => match pes with
    | p :: ps => mE U N sc c p && mOrs sc i ixs f j jxs cs ps
    | _ => false
def mAsr (sc : Scope) (cs : List E) (i : Nat) (ixs : List E) (f : List Nat) (j : Nat) (jxs : List E) (pe : Expr) : Bool := match pe with
  | .BoolOp .Or ps _ => mOrs U N sc i ixs f j jxs cs ps
  | pe => cs.isEmpty && mOwn U N sc i ixs f j jxs pe
mutual
def mS (sc : Scope) : S → Stmt → Bool
  | .set i e, st => match st with
    | .Assign [.Name x _] pe _ => decide (N[i]? = some x) && locB sc x && !isLc pe && mE U N sc e pe
    | _ => false
  | .setc i elt tg it ifs own, st => match st with
    | .Assign [.Name x _] pe _ => decide (N[i]? = some x) && locB sc x && mE U N sc (.lc elt tg it ifs own) pe
    | _ => false
  | .asg tg e, st => match st with
    | .Assign [ptg] pe _ => tg.isTp && mG N sc tg ptg && swNone pe && mE U N sc e pe
    | _ => false
  | .par i j a b, st => match st with
    | .Assign [.Tuple [.Name x px, .Name y py] _ _] (.Tuple [pa, pb] _ _) _ => decide (N[i]? = some x) && decide (N[j]? = some y) && decide (i ≠ j) && decide (sc.names.lookup x = some .local) && decide (sc.names.lookup y = some .local) &&
      (py.line == px.line) && !(isStar pa) && !(isStar pb) && !([pa, pb].all (foldedForSure 8)) && !([pa, pb].all (constantsAlone 8)) && mE U N sc a pa && mE U N sc b pb
    | _ => false
  | .aug i op e, st => match st with
    | .AugAssign (.Name x _) pop pe _ => decide (N[i]? = some x) && locB sc x && decide (pop = op.op) && mE U N sc e pe
    | _ => false
  | .app i ixs e, st => match st with
    | .Expr (.Call (.Attribute po m apos) [p] [] cpos) _ => mPath U N sc i ixs.reverse po && decide (m = "append") && (apos.endLine == cpos.line) && (ixs.isEmpty || isSA e) && mE U N sc e p
    | _ => false
  | .seti i ixs kx e, st => match st with
    | .Assign [.Subscript po pk _] pe _ => mPath U N sc i ixs.reverse po && (ixs.isEmpty || isPI kx) && !isSl pk && mE U N sc kx pk && mE U N sc e pe
    | _ => false
  | .asr cs i ixs f j jxs, st => match st with
    | .If pc [.Return (some (.Constant (.bool false) _ _)) _] [] _ => mAsr U N sc cs i ixs f j jxs pc
    | _ => false
  | .exp e, st => match st with
    | .Expr pe _ => !isLc pe && mE U N sc e pe
    | _ => false
  | .ret e, st => match st with
    | .Return (some pe) _ => mE U N sc e pe
    | _ => false
  | .retN, st => match st with
    | .Return none _ => true
    | _ => false
  | .ite c a b, st => match st with
    | .If pc pa pb _ => mE U N sc c pc && mSs sc a pa && mSs sc b pb
    | _ => false
  | .whl c b, st => match st with
    | .While pc pb [] _ => mE U N sc c pc && mSs sc b pb
    | _ => false
  | .for_ tg it b, st => match st with
    | .For ptg pit pb [] _ => (!it.two || tg.isTp) && mG N sc tg ptg && mE U N sc it pit && mSs sc b pb
    | _ => false
  | .pass, st => match st with
    | .Pass _ => true
    | .Expr (.Constant (.str _) _ _) _ => true
    | _ => false
  | .brk, st => match st with
    | .Break _ => true
    | _ => false
  | .cnt, st => match st with
    | .Continue _ => true
    | _ => false
def mSs (sc : Scope) : List S → List Stmt → Bool
  | [], sts => match sts with
    | [] => true
    | _ => false
  | s :: ss, sts => match sts with
    | st :: sts => mS sc s st && mSs sc ss sts
    | _ => false
end
end
structure SOk (P : Program) (w : World) (K : PySem.W.Frag) (mg : Str → Option Value) (base : Heap) (k : Nat) (N : List Str) (sc : Scope) (X : Cx) : Prop extends XOk P w K mg base k N sc X where
  own : PassesOwn (model X.prog X.w) X.A X.env X.xe
  kind : sc.kind = .function
  fn : ∀ x, X.fn x = true
def Post (K : PySem.W.Frag) (H0 F0 : Hp) (τ : List Gp) (D : Ends) : Fl → Prop
  | .nx ρ => ∀ σ H, I K H0 F0 ρ σ τ H → D.nx σ H
  | .bk ρ => ∀ σ H, I K H0 F0 ρ σ τ H → D.bk σ H
  | .ct ρ => ∀ σ H, I K H0 F0 ρ σ τ H → D.ct σ H
  | .rt t o => ∀ ρ σ v H, I K H0 F0 ρ σ (g1 o t v :: τ) H → o.isView = false → D.rt v H
def SS (P : Program) (w : World) (K : PySem.W.Frag) (mg : Str → Option Value) (base : Heap) (k : Nat) (N : List Str) (sc : Scope) (f : Env → Option Fl) (st : Stmt) : Prop := ∀ X, SOk P w K mg base k N sc X →
  ∃ t, PS X st t ∧ ∀ H0 F0 ρ σ τ H fl D, I K H0 F0 ρ σ τ H → NoV τ → f ρ = some fl → Post K H0 F0 τ D fl → t D σ H
def SSs (P : Program) (w : World) (K : PySem.W.Frag) (mg : Str → Option Value) (base : Heap) (k : Nat) (N : List Str) (sc : Scope) (f : Env → Option Fl) (st : List Stmt) : Prop := ∀ X, SOk P w K mg base k N sc X →
  ∃ t, PSs X st t ∧ ∀ H0 F0 ρ σ τ H fl D, I K H0 F0 ρ σ τ H → NoV τ → f ρ = some fl → Post K H0 F0 τ D fl → t D σ H
/-- a statement that goes on and leaves each slot its value -/
def SSk (P : Program) (w : World) (K : PySem.W.Frag) (mg : Str → Option Value) (base : Heap) (k : Nat) (N : List Str) (sc : Scope) (f : Env → Option Fl) (st : Stmt) : Prop := ∀ X, SOk P w K mg base k N sc X →
  ∃ t, PS X st t ∧ ∀ H0 F0 ρ σ τ H ρ9 D, I K H0 F0 ρ σ τ H → NoV τ → f ρ = some (.nx ρ9) → (∀ H', I K H0 F0 ρ9 σ τ H' → D.nx σ H') → t D σ H
section
variable {P : Program} {w : World} {K : PySem.W.Frag} {mg : Str → Option Value} {base : Heap} {k : Nat} {N : List Str} {sc : Scope} {U : BF → Bool} {G : List Nat → Option T} {C : List Nat → List T → Option (T × Own)}
variable {X : Cx} {H0 F0 H H' F : Hp} {ρ ρ' : Env} {σ : L2.St} {τ : List Gp} {t u y : T} {o q : Own} {va vb v : V} {r : R} {Q : VK}
theorem I.bindN {i : Nat} (h : I K H0 F0 ρ σ (g1 o t v :: τ) H) (nv : o.isView = false) (e : bindT (.nm i) t o ρ = some ρ') : I K H0 F0 ρ' (σ.set i (some v)) τ H := by
  simp only [bindT] at e
  split at e
  · rename_i hi
    cases e
    split
    · rename_i n; exact (h.nl (o' := .full) n).put rfl hi
    · exact h.put nv hi
  · cases e
theorem noLc {pe : Expr} (h : isLc pe = false) : NoLc pe := by
  intro tg line env
  cases pe <;> first | rfl | (simp [isLc] at h)
theorem swT (pe : Expr) {es : List Expr} {kk : Nat} {p : Pos} (l : Nat) (env : PySem.Env) : swapsWith pe (some (.Tuple es kk p)) l env = pure false := by
  cases pe <;> rfl
theorem swS (pe : Expr) {a b : Expr} {p : Pos} (l : Nat) (env : PySem.Env) : swapsWith pe (some (.Subscript a b p)) l env = pure false := by
  cases pe <;> rfl
theorem SOk.tok (ok : SOk P w K mg base k N sc X) : TOk K N sc X where
  K_ := ok.K_
  N_ := ok.N_
  nd := ok.nd
  calm := ok.calm
  loc := fun x h => ⟨by rw [ok.sc_]; exact locOf h, .inl (ok.fn x)⟩
theorem ss_set {i : Nat} {e : E} {x : Str} {p1 p2 : Pos} {pe : Expr} (hi : N[i]? = some x) (hl : locB sc x = true) (hc : isLc pe = false) (he : SV P w K mg base k N sc (den G C e) pe) : SS P w K mg base k N sc (exS G C (.set i e)) (.Assign [.Name x p1] pe p2) := fun X ok => by
  obtain ⟨te, h1, q1⟩ := he X ok.toXOk
  refine ⟨_, ps_set (by rw [ok.N_]; exact ok.nd) (by rw [ok.N_]; exact hi) (by rw [ok.sc_]; exact locOf hl) h1 (noLc hc _ _ _) (.inl (ok.fn x)), fun H0 F0 ρ σ τ H fl D hI nv e q => ?_⟩
  simp only [exS] at e
  obtain ⟨r0, e1, e⟩ := obind e
  obtain ⟨r, e2, e⟩ := obind e
  obtain ⟨ρ', e3, rfl⟩ := omap e
  refine q1 _ _ _ _ _ _ r0 _ hI (fun _ => nv) e1 fun v H1 hI1 l1 => ?_
  obtain ⟨n, h2⟩ := hI1.val e2 l1
  exact q _ _ (h2.bindN n e3)
theorem ss_setc {i : Nat} {elt : E} {tg : Tg} {it : E} {ifs : List E} {own : List (Str × Nat)} {x : Str} {p1 p2 pos : Pos} {pelt ptg pit : Expr} {pifs : List Expr} {scope : Scope} (hx : N[i]? = some x) (hl : locB sc x = true)
    (hi : SI P w K mg base k N sc (den G C it) ptg pit) (hb : blkC N sc scope own = true) (hg : mG N scope tg ptg = true) (ht : tgIn (own.map (·.2)) tg = true)
    (hs : STs' P w K mg base k N (relS scope sc) (denL G C ifs) pifs) (he : SV P w K mg base k N (relS scope sc) (den G C elt) pelt) (hf : ∀ env x, foldedSetIterable pit env x = pure x) :
    SS P w K mg base k N sc (exS G C (.setc i elt tg it ifs (own.map (·.2)))) (.Assign [.Name x p1] (.ListComp pelt [⟨ptg, pit, pifs, 0⟩] scope pos) p2) := fun X ok => by
  obtain ⟨wi, tt, te, w1, w2, w3, w4, q1⟩ := lc_all hi hg ht hs he X ok.toXOk
  have hN : X.N.Nodup := by rw [ok.N_]; exact ok.nd
  have hb' := blkOk_by (N := X.N) (sc := X.env.scope) (by rw [ok.N_, ok.sc_]; exact hb)
  have fin : ∀ H0 F0 ρ σ τ H fl D, I K H0 F0 ρ σ τ H → NoV τ → exS G C (.setc i elt tg it ifs (own.map (·.2))) ρ = some fl → Post K H0 F0 τ D fl → tAsg (tLc wi (gT K tg) tt te (own.map (·.2))) (gName i) D σ H := fun H0 F0 ρ σ τ H fl D hI nv e q => by
    simp only [exS] at e
    obtain ⟨r, e1, e⟩ := obind e
    obtain ⟨ρ', e3, rfl⟩ := omap e
    exact q1 _ _ _ _ _ _ r _ hI nv e1 fun v H1 hI1 n1 => q _ _ (hI1.bindN n1 e3)
  have sw : swapsWith (.ListComp pelt [⟨ptg, pit, pifs, 0⟩] scope pos) (some (.Name x p1)) p2.line X.env = pure (X.env.blockKind == .function && X.env.kindOf x == some .local && p1.line == pos.line && !(scope.names.any fun (n, k) => n == x && (k == .local || k == .cell))) := rfl
  cases hsw : (X.env.blockKind == .function && X.env.kindOf x == some .local && p1.line == pos.line && !(scope.names.any fun (n, k) => n == x && (k == .local || k == .cell))) with
  | true =>
    rw [hsw] at sw
    have hloc : X.env.scope.names.lookup x = some .local := by
      simp only [Bool.and_eq_true] at hsw
      have z := hsw.1.1.2
      exact eq_of_beq z
    exact ⟨_, ps_setLc ok.calm hN (by rw [ok.N_]; exact hx) hloc sw w1 hb' w2 w3 w4 (hf X.env), fin⟩
  | false =>
    rw [hsw] at sw
    exact ⟨_, ps_set hN (by rw [ok.N_]; exact hx) (by rw [ok.sc_]; exact locOf hl) (pe_lc ok.calm hN w1 hb' w2 w3 w4 (hf X.env)) sw (.inl (ok.fn x)), fin⟩
theorem swSt {pe : Expr} (h : swNone pe = true) {ts : List Expr} {kk : Nat} {p : Pos} {env : PySem.Env} : swappedStores [.Tuple ts kk p] pe env = pure none := by
  cases pe with
  | Tuple vs k2 p2 =>
    have h : vs.all (foldedForSure 8) = true := h
    unfold swappedStores
    simp only [h, if_true]
    split
    · rfl
    split
    · rfl
    split
    · rfl
    rfl
  | _ => rfl
theorem swPar {x y : Str} {px py pt pt2 : Pos} {kt k2 : Nat} {pa pb : Expr} {env : PySem.Env} (hk : env.scope.kind = .function) (hx : env.scope.names.lookup x = some .local) (hy : env.scope.names.lookup y = some .local) (hxy : x ≠ y)
    (hln : (py.line == px.line) = true) (s1 : isStar pa = false) (s2 : isStar pb = false) (f1 : ([pa, pb].all (foldedForSure 8)) = false) (f2 : ([pa, pb].all (constantsAlone 8)) = false) :
    swappedStores [.Tuple [.Name x px, .Name y py] kt pt] (.Tuple [pa, pb] k2 pt2) env = pure (some [x, y]) := by
  have kx : env.kindOf x = some .local := hx
  have ky : env.kindOf y = some .local := hy
  have hb : env.blockKind = .function := by unfold Env.blockKind; rw [hk]; rfl
  have st : ∀ f : Expr → Bool, (∀ e, isStar e = false → f e = false) → [pa, pb].any f = false := fun f h => by
    simp [h pa s1, h pb s2]
  have fm : ∀ f : Expr → Option Str, f (.Name x px) = some x → f (.Name y py) = some y → [Expr.Name x px, Expr.Name y py].filterMap f = [x, y] := fun f h1 h2 => by
    rw [List.filterMap_cons_some h1, List.filterMap_cons_some h2]; rfl
  have e : [x, y].eraseDups = [x, y] := by
    have h : (y == x) = false := by simpa using fun e : y = x => hxy e.symm
    simp [List.eraseDups_cons, h]
  have hln : py.line = px.line := by simpa using hln
  unfold swappedStores
  simp only [f1, f2, hb]
  rw [st, fm]
  · simp [e]
  · simp [kx, Expr.pos]
  · simp [ky, Expr.pos, hln]
  · intro e he
    cases e <;> first | rfl | cases he
theorem ss_asg {tg : Tg} {e : E} {p2 : Pos} {ptg pe : Expr} (ht : tg.isTp = true) (hg : mG N sc tg ptg = true) (hc : swNone pe = true) (he : SV P w K mg base k N sc (den G C e) pe) : SS P w K mg base k N sc (exS G C (.asg tg e)) (.Assign [ptg] pe p2) := fun X ok => by
  obtain ⟨te, h1, q1⟩ := he X ok.toXOk
  have pg := pg_ok ok.tok hg
  obtain ⟨es, kk, p, rfl⟩ := isTp_of ht hg
  refine ⟨_, ps_asg h1 pg (swT (es := es) (kk := kk) (p := p) pe p2.line X.env) (swSt hc) rfl, fun H0 F0 ρ σ τ H fl D hI nv e q => ?_⟩
  simp only [exS] at e
  obtain ⟨r0, e1, e⟩ := obind e
  obtain ⟨r, e2, e⟩ := obind e
  obtain ⟨ρ', e3, rfl⟩ := omap e
  refine q1 _ _ _ _ _ _ r0 _ hI (fun _ => nv) e1 fun v H1 hI1 l1 => ?_
  obtain ⟨n, h2⟩ := hI1.val e2 l1
  exact gT_ok h2 n e3 fun σ' h3 _ => q _ _ h3
theorem ss_par {i j : Nat} {a b : E} {x y : Str} {px py pt pt2 p2 : Pos} {kt k2 : Nat} {pa pb : Expr} (hi : N[i]? = some x) (hj : N[j]? = some y) (hij : i ≠ j) (hx : sc.names.lookup x = some .local) (hy : sc.names.lookup y = some .local)
    (hln : (py.line == px.line) = true) (s1 : isStar pa = false) (s2 : isStar pb = false) (f1 : ([pa, pb].all (foldedForSure 8)) = false) (f2 : ([pa, pb].all (constantsAlone 8)) = false)
    (ha : SV P w K mg base k N sc (den G C a) pa) (pla : Plain pa) (hb : SV P w K mg base k N sc (den G C b) pb) (plb : Plain pb) : SS P w K mg base k N sc (exS G C (.par i j a b)) (.Assign [.Tuple [.Name x px, .Name y py] kt pt] (.Tuple [pa, pb] k2 pt2) p2) := fun X ok => by
  obtain ⟨ta, h1, q1⟩ := ha X ok.toXOk
  obtain ⟨tb, h2, q2⟩ := hb X ok.toXOk
  have e1 : starEach [pa, pb] X.env = (false, eval pa X.env) :: starEach [pb] X.env := pla.star _ _
  have e2 : starEach [pb] X.env = [(false, eval pb X.env)] := plb.star _ _
  have hN : X.N.Nodup := by rw [ok.N_]; exact ok.nd
  have hxy : x ≠ y := fun e => hij ((List.getElem?_inj (List.getElem?_eq_some_iff.mp hi).1 ok.nd).mp (by rw [hi, hj, e]))
  refine ⟨_, ps_par ok.calm hN (by rw [ok.N_]; exact hi) (by rw [ok.N_]; exact hj) hij (by rw [ok.sc_]; exact hx) (by rw [ok.sc_]; exact hy) (pa_cons h1 (pa_cons h2 pa_nil e2) e1) ?_ rfl, fun H0 F0 ρ σ τ H fl D hI nv e q => ?_⟩
  · exact swPar (by rw [ok.sc_]; exact ok.kind) (by rw [ok.sc_]; exact hx) (by rw [ok.sc_]; exact hy) hxy hln s1 s2 f1 f2
  · simp only [exS] at e
    obtain ⟨a0, e1, e⟩ := obind e
    obtain ⟨ra, e2, e⟩ := obind e
    obtain ⟨b0, e3, e⟩ := obind e
    obtain ⟨rb, e4, e⟩ := obind e
    obtain ⟨ρ1, e5, e⟩ := obind e
    obtain ⟨ρ2, e6, rfl⟩ := omap e
    refine q1 _ _ _ _ _ _ a0 _ hI (fun _ => nv) e1 fun v H1 hI1 l1 => ?_
    obtain ⟨n1, h2⟩ := hI1.val e2 l1
    refine q2 _ _ _ _ _ _ b0 _ h2 (fun _ => nv.cons n1) e3 fun v2 H2 hI2 l2 => ?_
    obtain ⟨n2, h3⟩ := hI2.val e4 l2
    exact ⟨v, v2, rfl, q _ _ ((h3.swap.bindN n1 e5).bindN n2 e6)⟩
def rAug : BO → R2
  | .add => fun x y H Q => (rI0 fun i j => .int (i + j)) x y H Q ∨ rStr x y H Q
  | .sub => rI0 fun i j => .int (i - j)
  | .mul => rI CMul fun i j => .int (i * j)
  | .fdiv => rI CDivW fun i j => .int (i / j)
  | .mod => rI (fun _ j => 0 < j) fun i j => .int (i % j)
  | .pow => fun _ _ _ _ => False
theorem opAug (op : BO) : PIp X op.op (rAug op) := by
  intro pins s σ H x y v u Q I r1 r2 h
  cases op with
  | add =>
    rcases h with h | h
    · exact augR iop_add I r1 r2 h
    · exact augR iop_add_str I r1 r2 h
  | sub => exact augR iop_sub I r1 r2 h
  | mul => exact augR iop_mul I r1 r2 h
  | fdiv => exact augR iop_fdivW I r1 r2 h
  | mod => exact augR iop_mod I r1 r2 h
  | pow => exact h.elim
theorem aug_nl {op : BO} (h : augV op t u = some y) : t.nl = true ∧ y.nl = true := by
  unfold augV at h
  split at h <;> first | (cases h; exact ⟨rfl, rfl⟩) | (split at h; (cases h; exact ⟨rfl, rfl⟩); cases h) | cases h
theorem aug_ok {op : BO} (h : I K H0 F0 ρ σ (g1 q u vb :: g1 o t va :: τ) H) (he : augV op t u = some y) (hq : ∀ v, I K H0 F0 ρ σ (g1 .full y v :: τ) H → Q v H) : rAug op va vb H Q := by
  have h' := h.swap
  unfold augV at he
  split at he
  · cases he; exact .inl ⟨_, _, h'.isInt, h.isInt, hq _ (h.drop.drop.int _)⟩
  · split at he
    · rename_i hz
      cases he
      obtain ⟨rfl, a1⟩ := h'.isStr
      obtain ⟨rfl, a2⟩ := h.isStr
      refine .inr ⟨_, _, rfl, rfl, by simpa [Str.length] using hz, ?_⟩
      rw [strApp]
      exact hq _ (h.drop.drop.str (ascii_append a1 a2 hz))
    · cases he
  · cases he; exact ⟨_, _, h'.isInt, h.isInt, hq _ (h.drop.drop.int _)⟩
  · split at he
    · rename_i hz
      cases he; exact ⟨_, _, h'.isInt, h.isInt, hz.elim (fun z => .inl (by omega)) (fun z => .inr (by omega)), hq _ (h.drop.drop.int _)⟩
    · cases he
  · split at he
    · rename_i hz
      cases he; exact ⟨_, _, h'.isInt, h.isInt, hz, hq _ (h.drop.drop.int _)⟩
    · cases he
  · split at he
    · rename_i hz
      cases he; exact ⟨_, _, h'.isInt, h.isInt, hz, hq _ (h.drop.drop.int _)⟩
    · cases he
  · cases he
theorem ss_aug {i : Nat} {op : BO} {e : E} {x : Str} {p1 p2 : Pos} {pe : Expr} (hi : N[i]? = some x) (hl : locB sc x = true) (he : SV P w K mg base k N sc (den G C e) pe) : SS P w K mg base k N sc (exS G C (.aug i op e)) (.AugAssign (.Name x p1) op.op pe p2) := fun X ok => by
  obtain ⟨te, h1, q1⟩ := he X ok.toXOk
  refine ⟨_, ps_aug (by rw [ok.N_]; exact ok.nd) (by rw [ok.N_]; exact hi) (by rw [ok.sc_]; exact locOf hl) h1 (opAug op) (.inl (ok.fn x)), fun H0 F0 ρ σ τ H fl D hI nv e q => ?_⟩
  simp only [exS] at e
  split at e
  · rename_i t o et
    obtain ⟨r, e1, e⟩ := obind e
    obtain ⟨t', e2, e⟩ := obind e
    obtain ⟨ρ', e3, rfl⟩ := omap e
    obtain ⟨v, ev, _, _, _, hn⟩ := hI.look et
    refine ⟨v, ev, ?_⟩
    refine q1 _ _ _ _ _ _ r _ (hn (aug_nl e2).1) (fun _ => nv.cons rfl) e1 fun v2 H1 hI1 l1 => ?_
    exact aug_ok hI1 e2 fun z h2 => q _ _ (h2.bindN rfl e3)
  · cases e
theorem set_set {α : Type} {l : List α} {i : Nat} {a b : α} : (l.set i a).set i b = l.set i b := List.set_set _
theorem modO_min {ys : List T} {o1 o2 : Own} (h : modO false (.lst ys) o1 q = some o2) : (o1 = .full ∨ o1 = .shal) ∧ o2 = minO o1 q := by
  cases o1 <;> cases q <;> simp [modO, Own.isFull] at h <;> subst h <;> simp [minO, Own.isFull]
theorem RpL.set {F : Hp} {o : Own} {z : T} {zv : V} (ho : o = .cold) : ∀ {ts : List T} {vs : List V} (j : Nat), RpL K F H o ts vs [] → Rp K F H o z zv [] → RpL K F H o (ts.set j z) (vs.set j zv) []
  | [], [], _, h, _ => by simpa using h
  | [], _ :: _, _, h, _ => by simp [RpL] at h
  | _ :: _, [], _, h, _ => by simp [RpL] at h
  | t :: ts, v :: vs, 0, h, hz => by
    simp only [RpL] at h
    obtain ⟨f1, f2, h1, h2, e⟩ := h
    have e2 : f2 = [] := (List.append_eq_nil_iff.mp e.symm).2
    subst e2
    show RpL K F H o (z :: ts) (zv :: vs) []
    simp only [RpL]
    exact ⟨[], [], hz, h2, rfl⟩
  | t :: ts, v :: vs, j + 1, h, hz => by
    simp only [RpL] at h
    obtain ⟨f1, f2, h1, h2, e⟩ := h
    have e1 : f1 = [] := (List.append_eq_nil_iff.mp e.symm).1
    have e2 : f2 = [] := (List.append_eq_nil_iff.mp e.symm).2
    subst e1 e2
    show RpL K F H o (t :: ts.set j z) (v :: vs.set j zv) []
    simp only [RpL]
    exact ⟨[], [], h1, RpL.set ho j h2 hz, rfl⟩
/-- one of full items is exchanged: what it owned is let go -/
theorem RpL.setF {F : Hp} {z : T} {zv : V} : ∀ {ts : List T} {vs : List V} {fp fz : List Addr} (j : Nat), RpL K F H .full ts vs fp → Rp K F H .full z zv fz → j < ts.length → ∃ fp', RpL K F H .full (ts.set j z) (vs.set j zv) fp' ∧ (∃ l r m, fp = l ++ (m ++ r) ∧ fp' = l ++ (fz ++ r))
  | [], _, _, _, _, _, _, h => by simp at h
  | _ :: _, [], _, _, _, h, _, _ => by simp [RpL] at h
  | t :: ts, v :: vs, fp, fz, 0, h, hz, _ => by
    simp only [RpL] at h
    obtain ⟨f1, f2, h1, h2, rfl⟩ := h
    refine ⟨fz ++ f2, ?_, [], f2, f1, rfl, rfl⟩
    show RpL K F H .full (z :: ts) (zv :: vs) _
    simp only [RpL]
    exact ⟨fz, f2, hz, h2, rfl⟩
  | t :: ts, v :: vs, fp, fz, j + 1, h, hz, hj => by
    simp only [RpL] at h
    obtain ⟨f1, f2, h1, h2, rfl⟩ := h
    obtain ⟨fp', r, l, rr, m, e1, e2⟩ := RpL.setF j h2 hz (by simpa using hj)
    refine ⟨f1 ++ fp', ?_, f1 ++ l, rr, m, by rw [e1, List.append_assoc], by rw [e2, List.append_assoc]⟩
    show RpL K F H .full (t :: ts.set j z) (v :: vs.set j zv) _
    simp only [RpL]
    exact ⟨f1, fp', h1, r, rfl⟩
theorem I.write3 {g g' : Gp} {D : Addr} {ws ws' : List V} {vs : List V} {ts : List T} (h : I K H0 F0 ρ σ (g :: g' :: τ) H) (nv : NoV τ) (hD : H D = some (.lst ws))
    (q : ∀ F f1 f2, Same F H → RpL K F H g.o g.ts g.vs f1 → RpL K F H g'.o g'.ts g'.vs f2 → (∀ a ∈ f1 ++ f2, F a = none) → (f1 ++ f2).Nodup → D ∈ f2 ∧ ∃ fp' m, RpL K F (upd H D (.lst ws')) o ts vs fp' ∧ (fp' ++ m).Perm (f1 ++ f2)) : I K H0 F0 ρ σ (⟨o, ts, vs⟩ :: τ) (upd H D (.lst ws')) := by
  obtain ⟨F, fρ, fτ, c⟩ := h
  obtain ⟨f1, f23, h1, ⟨f2, f3, h2, h3, rfl⟩, rfl⟩ := c.tmp
  have nd := c.nd
  rw [List.nodup_append] at nd
  obtain ⟨n1, n2, n3⟩ := nd
  rw [← List.append_assoc] at n2
  rw [List.nodup_append] at n2
  obtain ⟨n4, n5, n6⟩ := n2
  obtain ⟨dm, fp', mm, r, p⟩ := q F f1 f2 c.fh h1 h2 (fun a m => (c.ow a (by simp only [List.mem_append] at m ⊢; grind)).2) n4
  have FD : F D = none := (c.ow D (by simp [dm])).2
  have HD0 : H0 D = none := (c.ow D (by simp [dm])).1
  have dρ : D ∉ fρ := fun m => n3 D m D (by simp [dm]) rfl
  have d3 : D ∉ f3 := fun m => n6 D (by simp [dm]) D m rfl
  refine ⟨F, fρ, fp' ++ f3, fun a x e => ?_, fun a x e => ?_, c.f0, fun a m => ?_, ?_, ?_, fp', f3, r, ?_, rfl⟩
  · have : a ≠ D := fun z => by rw [z, FD] at e; cases e
    rw [upd_ne this]; exact c.fh a x e
  · have : a ≠ D := fun z => by rw [z, HD0] at e; cases e
    rw [upd_ne this]; exact c.h0 a x e
  · refine c.ow a ?_
    simp only [List.mem_append] at m ⊢
    rcases m with m | m | m
    · exact .inl m
    · have := (p.mem_iff).mp (List.mem_append_left _ m)
      simp only [List.mem_append] at this
      grind
    · grind
  · have p2 : (fρ ++ (fp' ++ (mm ++ f3))).Perm (fρ ++ (f1 ++ (f2 ++ f3))) := by
      refine List.Perm.append_left _ ?_
      rw [← List.append_assoc (as := f1), ← List.append_assoc (as := fp')]
      exact p.append_right _
    refine (p2.nodup_iff.mpr c.nd).sublist ?_
    exact List.Sublist.append (List.Sublist.refl _) (List.Sublist.append (List.Sublist.refl _) (List.sublist_append_right _ _))
  · exact c.env.keep (Keep.write hD dρ fun a m => (c.ow a (by simp [m])).2)
  · exact h3.keep (Keep.write hD d3 fun a m => (c.ow a (by simp [m])).2) (fun _ g m => nv g m)
/-- an item of a list that is one's own is exchanged -/
theorem I.setI {xs : List T} {D : Addr} {vy : V} {j : Nat} (h : I K H0 F0 ρ σ (g1 q y vy :: g1 o (.lst xs) (.ref D) :: τ) H) (ho : o = .full ∨ o = .shal) (hq : q.isView = false) (nv : NoV τ) (hj : j < xs.length) :
    ∃ ws, H D = some (.lst ws) ∧ xs.length = ws.length ∧ I K H0 F0 ρ σ (g1 (minO o q) (.lst (xs.set j y)) (.ref D) :: τ) (upd H D (.lst (ws.set j vy))) := by
  obtain ⟨a, ws, e, rd, hl, _, own⟩ := h.drop.kidsL
  cases e
  have hD := own ho
  refine ⟨ws, hD, hl, ?_⟩
  have same : ∀ {ws' : List V}, Rd H D (.lst ws') → ws' = ws := fun z => by
    rcases z with z | ⟨ob, z⟩ <;> (rw [hD] at z; cases z)
    rfl
  cases hb : (o.isFull && q.isFull) with
  | true =>
    simp only [Bool.and_eq_true] at hb
    have e1 := full_of hb.1
    have e2 := full_of hb.2
    subst e1 e2
    refine h.write3 nv hD fun F f1 f2 s r1 r2 fn nd => ?_
    have r1 := RpL.one.mp r1
    have r2 := RpL.one.mp r2
    simp only [Rp] at r2
    obtain ⟨a, ws', hd, fk, e, ⟨h1, h2, e3⟩, rr2, e4⟩ := r2
    cases e
    subst e3 e4
    have := same (.inl h1)
    subst this
    have nd' := nd
    rw [List.nodup_append] at nd
    obtain ⟨n1, n2, n3⟩ := nd
    have d1 : D ∉ f1 := fun m => n3 D m D (by simp) rfl
    have dk : D ∉ fk := by
      simp only [List.singleton_append, List.nodup_cons] at n2
      exact n2.1
    have k1 : RpL K F (upd H D (.lst (ws'.set j vy))) .full xs ws' fk := RpL.keep (Keep.write hD dk fun a m => fn a (by simp [m])) rr2
    have k2 : Rp K F (upd H D (.lst (ws'.set j vy))) .full y vy f1 := Rp.keep (Keep.write hD d1 fun a m => fn a (by simp [m])) r1
    obtain ⟨fp', k3, l, r, m, p1, p2⟩ := RpL.setF j k1 k2 hj
    refine ⟨by simp, [D] ++ fp', m, RpL.one.mpr ?_, ?_⟩
    · simp only [Rp]
      exact ⟨D, ws'.set j vy, [D], fp', rfl, ⟨upd_same, h2, rfl⟩, k3, rfl⟩
    · subst p1 p2
      refine List.perm_iff_count.mpr fun z => ?_
      simp only [List.count_append]
      omega
  | false =>
    rw [minO_shal hb]
    have h1 := ((h.frz hq).swap.toShal ho).swap
    refine h1.write3 nv hD fun F f1 f2 s r1 r2 fn nd => ?_
    have e1 := RpL.none_of (.inl rfl) r1
    subst e1
    have r1 := RpL.one.mp r1
    have r2 := RpL.one.mp r2
    simp only [Rp] at r2
    obtain ⟨a, ws', hd, fk, e, ⟨h1, h2, e3⟩, rr2, e4⟩ := r2
    cases e
    subst e3 e4
    have := same (.inl h1)
    subst this
    have ek := RpL.none_of (.inl rfl) rr2
    subst ek
    refine ⟨by simp, [D], [], RpL.one.mpr ?_, by simp⟩
    simp only [Rp]
    have k1 : RpL K F (upd H D (.lst (ws'.set j vy))) .cold xs ws' [] := RpL.keep (Keep.write hD (by simp) fun a m => by simp at m) rr2
    have k2 : Rp K F (upd H D (.lst (ws'.set j vy))) .cold y vy [] := Rp.keep (Keep.write hD (by simp) fun a m => by simp at m) r1
    exact ⟨D, ws'.set j vy, [D], [], rfl, ⟨upd_same, h2, rfl⟩, RpL.set rfl j k1 k2, rfl⟩
theorem ss_seti {i : Nat} {e kx : E} {x : Str} {p1 p2 p3 : Pos} {pk pe : Expr} (hi : nmB N sc i x = true) (hsl : isSl pk = false) (hk : SV P w K mg base k N sc (den G C kx) pk) (he : SV P w K mg base k N sc (den G C e) pe) :
    SS P w K mg base k N sc (exS G C (.seti i [] kx e)) (.Assign [.Subscript (.Name x p1) pk p2] pe p3) := fun X ok => by
  obtain ⟨te, h1, q1⟩ := he X ok.toXOk
  obtain ⟨tk, h2, q2⟩ := hk X ok.toXOk
  obtain ⟨a1, a2, a3, a4⟩ := nmOf hi
  have pv : PE X (.Name x p1) (tVar i) := pe_var (by rw [ok.N_]; exact a1) (by rw [ok.sc_]; exact a2) a3 a4
  refine ⟨_, ps_asg h1 (pg_sub pv h2 set_list (fun v => by cases pk <;> first | rfl | cases hsl)) (swS (a := .Name x p1) (b := pk) (p := p2) pe p3.line X.env) rfl rfl, fun H0 F0 ρ σ τ H fl D hI nv e q => ?_⟩
  simp only [exS] at e
  obtain ⟨r0, e1, e⟩ := obind e
  obtain ⟨r, e2, e⟩ := obind e
  split at e
  · rename_i t0 et
    simp only [denL, evIs, Option.bind_some] at e
    obtain ⟨rk, e3, e⟩ := obind e
    refine q1 _ _ _ _ _ _ r0 _ hI (fun _ => nv) e1 fun y H1 hI1 l1 => ?_
    obtain ⟨n, h2⟩ := hI1.val e2 l1
    obtain ⟨v, ev, _⟩ := h2.look (t := t0.1) (o := t0.2) et
    obtain ⟨tk, ok', ρk⟩ := rk
    cases tk with
    | int kk =>
      obtain ⟨ρ', e4, rfl⟩ := omap e
      unfold modS at e4
      split at e4
      · rename_i t1 o1 e5
        have e5 : ρk[i]? = some (some (t1, o1)) := e5
        obtain ⟨t2, e6, e4⟩ := obind e4
        obtain ⟨o2, e7, rfl⟩ := omap e4
        simp only [modAt] at e6
        cases t1 with
        | lst ys =>
          simp only [setV] at e6
          obtain ⟨j, e8, rfl⟩ := omap e6
          obtain ⟨ho, rfl⟩ := modO_min e7
          refine ⟨v, ev, ?_⟩
          refine q2 _ _ _ _ _ _ _ _ h2 (fun _ => nv.cons n) e3 fun kv H2 hI2 l2 => ?_
          have hkv := hI2.isInt
          subst hkv
          have h3 := hI2.drop
          obtain ⟨v', ev', nv', h4⟩ := h3.mov e5
          rw [ev] at ev'; cases ev'
          obtain ⟨a, ws, rfl, rd, hlen, _, own⟩ := h4.kidsL
          have hj := (ixN_seq e8)
          obtain ⟨ws', hD, hl', h5⟩ := I.setI (j := j) h4.swap ho n nv (by omega)
          refine ⟨a, ws', kk, j, rfl, rfl, hD, by rw [← hl']; exact e8, ?_⟩
          have hlt : i < (ρk.set i none).length := by simpa using (List.getElem?_eq_some_iff.mp e5).1
          have h6 := h5.put (i := i) (by unfold minO; split <;> rfl) hlt
          rw [set_set, set_self ev] at h6
          exact q _ _ h6
        | _ => simp [setV] at e6
      · cases e4
    | _ => cases e
  · cases e
theorem ss_app {i : Nat} {e : E} {x m : Str} {p1 apos cpos p2 : Pos} {p : Expr} (hi : nmB N sc i x = true) (hm : m = "append") (hl : (apos.endLine == cpos.line) = true) (he : SV P w K mg base k N sc (den G C e) p) (pl : Plain p) :
    SS P w K mg base k N sc (exS G C (.app i [] e)) (.Expr (.Call (.Attribute (.Name x p1) m apos) [p] [] cpos) p2) := fun X ok => by
  subst hm
  obtain ⟨te, h1, q1⟩ := he X ok.toXOk
  obtain ⟨a1, a2, a3, a4⟩ := nmOf hi
  have hs : starEach [p] X.env = [(false, eval p X.env)] := pl.star _ _
  have pv : PE X (.Name x p1) (tVar i) := pe_var (by rw [ok.N_]; exact a1) (by rw [ok.sc_]; exact a2) a3 a4
  refine ⟨_, ps_expr (pe_bm PySem.F.plainAttrs_list PySem.F.slot_list_append PySem.F.type_list_append mt_append pv (pa_cons h1 pa_nil hs) rfl (few_ok pl) hl hs rfl) rfl, fun H0 F0 ρ σ τ H fl D hI nv e q => ?_⟩
  simp only [exS] at e
  split at e
  · rename_i tr o0 et
    split at e
    · cases e
    rename_i hroot
    obtain ⟨xs, rfl⟩ : ∃ xs, tr = .lst xs := by
      cases tr <;> first | exact ⟨_, rfl⟩ | (simp [rootOk] at hroot)
    simp only [denL, evIs, Option.bind_some] at e
    obtain ⟨r0, e1, e⟩ := obind e
    obtain ⟨r, e2, e⟩ := obind e
    obtain ⟨ρ', e3, rfl⟩ := omap e
    obtain ⟨v, ev, _, hvw, _, _⟩ := hI.look et
    refine ⟨v, ev, ?_, ?_⟩
    · obtain ⟨a, ws, rfl, rd, _⟩ := (hvw 0).kidsL
      exact .inl ⟨rfl, ws, .inl rd⟩
    · refine q1 _ _ _ _ _ _ r0 _ hI (fun _ => nv) e1 fun y H1 hI1 l1 => ?_
      obtain ⟨n, h2⟩ := hI1.val e2 l1
      unfold modS at e3
      split at e3
      · rename_i t1 o1 e4
        obtain ⟨t2, e5, e3⟩ := obind e3
        obtain ⟨o2, e6, rfl⟩ := omap e3
        obtain ⟨v', ev', nv', h3⟩ := h2.mov e4
        rw [ev] at ev'; cases ev'
        simp only [modAt] at e5
        cases t1 with
        | lst ys =>
          simp only [appV] at e5
          split at e5
          · rename_i hz
            cases e5
            have ho := modO_min e6
            obtain ⟨ho, rfl⟩ := ho
            have h3' := h3.swap
            obtain ⟨a, ws, rfl, rd, hlen, _, own⟩ := h3.kidsL
            obtain ⟨ws', hD, hl', h4⟩ := I.app h3' ho n nv
            refine ⟨a, ws', y, rfl, rfl, hD, by omega, ?_⟩
            have hlt : i < (r.ρ.set i none).length := by simpa using (List.getElem?_eq_some_iff.mp e4).1
            have h5 := h4.put (i := i) (by unfold minO; split <;> rfl) hlt
            rw [set_set, set_self ev] at h5
            exact q _ _ h5
          · cases e5
        | _ => simp [appV] at e5
      · cases e3
  · cases e
theorem mPath_pl {i : Nat} : ∀ (es : List E) (pe : Expr), mPath U N sc i es pe = true → Plain pe
  | [], pe, h => by
    unfold mPath at h
    split at h
    · exact ⟨fun _ _ => rfl, fun _ _ => rfl, fun _ _ => rfl, fun _ _ _ => rfl, fun _ => rfl⟩
    · cases h
  | e :: es, pe, h => by
    unfold mPath at h
    split at h
    · exact ⟨fun _ _ => rfl, fun _ _ => rfl, fun _ _ => rfl, fun _ _ _ => rfl, fun _ => rfl⟩
    · cases h
theorem path_env {i : Nat} : ∀ (es : List E) (pe : Expr), mPath U N sc i es pe = true → ∀ X, XOk P w K mg base k N sc X → ∀ H0 F0 ρ σ τ H ks ρ', I K H0 F0 ρ σ τ H → evIs (denL G C es.reverse) ρ = some (ks, ρ') → ρ' = ρ
  | [], pe, h, X, ok, H0, F0, ρ, σ, τ, H, ks, ρ', hI, he => by
    simp only [List.reverse_nil, denL, evIs, Option.some.injEq, Prod.mk.injEq] at he
    exact he.2.symm
  | e :: es, pe, h, X, ok, H0, F0, ρ, σ, τ, H, ks, ρ', hI, he => by
    unfold mPath at h
    split at h
    · simp only [Bool.and_eq_true] at h
      obtain ⟨⟨h1, h2⟩, h3⟩ := h
      obtain ⟨i1, c1, pl⟩ := pint (P := P) (w := w) (K := K) (mg := mg) (base := base) (k := k) (G := G) (C := C) e sc _ h1 h2
      obtain ⟨ti, p1, q1⟩ := i1 X ok
      rw [List.reverse_cons, denL_snoc, evIs_snoc] at he
      obtain ⟨x, e1, he⟩ := obind he
      obtain ⟨r, e2, he⟩ := obind he
      obtain ⟨ks1, ρ1⟩ := x
      obtain ⟨t, o, ρ2⟩ := r
      cases t with
      | int kk =>
        cases he
        have z1 := path_env es _ h3 X ok H0 F0 ρ σ τ H ks1 ρ1 hI e1
        subst z1
        exact (q1 H0 F0 _ σ τ H kk o _ (fun _ _ => True) hI e2).1
      | _ => cases he
    · cases h
theorem evIs_len : ∀ {ds : List Den} {ρ : Env} {x : List Int × Env}, evIs ds ρ = some x → x.1.length = ds.length
  | [], _, _, e => by cases e; rfl
  | d :: ds, ρ, x, e => by
    simp only [evIs] at e
    obtain ⟨r, _, e⟩ := obind e
    split at e
    · obtain ⟨y, e2, rfl⟩ := omap e
      simp [evIs_len e2]
    · cases e
theorem ss_appP {i : Nat} {i0 : E} {ixs : List E} {e : E} {m : Str} {apos cpos p2 : Pos} {po p : Expr} (hp : mPath U N sc i (i0 :: ixs).reverse po = true) (hm : m = "append") (hl : (apos.endLine == cpos.line) = true) (he : SVy P w K mg base k N sc (den G C e) p) (pl : Plain p) (plo : Plain po) :
    SS P w K mg base k N sc (exS G C (.app i (i0 :: ixs) e)) (.Expr (.Call (.Attribute po m apos) [p] [] cpos) p2) := fun X ok => by
  subst hm
  obtain ⟨te, h1, q1⟩ := he X ok.toXOk
  obtain ⟨tp, h2, q2⟩ := path_ok (G := G) (C := C) _ _ hp X ok.toXOk
  have hs : starEach [p] X.env = [(false, eval p X.env)] := pl.star _ _
  refine ⟨_, ps_expr (pe_bm PySem.F.plainAttrs_list PySem.F.slot_list_append PySem.F.type_list_append mt_append h2 (pa_cons h1 pa_nil hs) (plo.att _ _ _) (few_ok pl) hl hs rfl) rfl, fun H0 F0 ρ σ τ H fl D hI nv e q => ?_⟩
  simp only [exS] at e
  split at e
  · rename_i tr o0 et
    split at e
    · cases e
    obtain ⟨kx, e0, ea⟩ := obind e
    clear e
    obtain ⟨ks, ρ1⟩ := kx
    obtain ⟨v0, ev, _⟩ := hI.look et
    have e0' : evIs (denL G C (i0 :: ixs).reverse.reverse) ρ = some (ks, ρ1) := by rw [List.reverse_reverse]; exact e0
    have z0 := path_env (G := G) (C := C) _ _ hp X ok.toXOk _ _ _ _ _ _ _ _ hI e0'
    subst z0
    obtain ⟨r0, e1, eb⟩ := obind ea
    clear ea
    obtain ⟨r, e2, ec⟩ := obind eb
    clear eb
    obtain ⟨ρ', e3, rfl⟩ := omap ec
    clear ec
    obtain ⟨a1, a2, a3⟩ := q1 _ _ e1
    obtain ⟨t0, o1, ρ2⟩ := r0
    dsimp only at a1 a2
    subst a1 a2
    have er : r = ⟨t0, .full, _⟩ := (Option.some.inj e2).symm
    subst er
    have hlen := evIs_len e0
    have hks : ks.isEmpty = false := by
      cases ks with
      | nil => simp [denL] at hlen
      | cons _ _ => rfl
    unfold modS at e3
    split at e3
    · rename_i t1 o1 e4
      obtain ⟨t2, e5, e3⟩ := obind e3
      obtain ⟨o2, e6, rfl⟩ := omap e3
      have ho : o1 = .full ∧ o2 = .full := by
        rw [hks] at e6
        cases o1 <;> simp [modO, Own.isFull] at e6
        exact ⟨rfl, e6.symm⟩
      obtain ⟨rfl, rfl⟩ := ho
      obtain ⟨v', ev', nv', h3⟩ := hI.mov e4
      rw [ev] at ev'; cases ev'
      obtain ⟨Dd, ws, pp, hD, hz, fin⟩ := h3.appP nv e5
      have go := (q2 H0 F0 _ σ τ H ks _ (fun x H1 => tyV X.K "list" x H1 ∧ tCons te tNil σ H1 fun xs H2 => rAppend x xs H2 fun _ H3 => D.nx σ H3) v0 (.ref Dd) hI e0' ev pp).2
      refine go ⟨.inl ⟨rfl, ws, .inl (.inl hD)⟩, a3 σ H _ fun H' v fy s hy ny ry => ?_⟩
      refine ⟨Dd, ws, v, rfl, rfl, s _ _ hD, hz, ?_⟩
      have h4 := fin H' v fy s hy ny ry
      have h5 := h4.put (i := i) rfl (by rw [List.length_set]; exact (List.getElem?_eq_some_iff.mp e4).1)
      rw [set_set, set_self ev] at h5
      exact q _ _ h5
    · cases e3
  · cases e
theorem ssk_appP {i : Nat} {i0 : E} {ixs : List E} {e : E} {m : Str} {apos cpos p2 : Pos} {po p : Expr} (hp : mPath U N sc i (i0 :: ixs).reverse po = true) (hm : m = "append") (hl : (apos.endLine == cpos.line) = true) (he : SVy P w K mg base k N sc (den G C e) p) (pl : Plain p) (plo : Plain po) :
    SSk P w K mg base k N sc (exS G C (.app i (i0 :: ixs) e)) (.Expr (.Call (.Attribute po m apos) [p] [] cpos) p2) := fun X ok => by
  subst hm
  obtain ⟨te, h1, q1⟩ := he X ok.toXOk
  obtain ⟨tp, h2, q2⟩ := path_ok (G := G) (C := C) _ _ hp X ok.toXOk
  have hs : starEach [p] X.env = [(false, eval p X.env)] := pl.star _ _
  refine ⟨_, ps_expr (pe_bm PySem.F.plainAttrs_list PySem.F.slot_list_append PySem.F.type_list_append mt_append h2 (pa_cons h1 pa_nil hs) (plo.att _ _ _) (few_ok pl) hl hs rfl) rfl, fun H0 F0 ρ σ τ H ρ9 D hI nv e q => ?_⟩
  simp only [exS] at e
  split at e
  · rename_i tr o0 et
    split at e
    · cases e
    obtain ⟨kx, e0, ea⟩ := obind e
    clear e
    obtain ⟨ks, ρ1⟩ := kx
    obtain ⟨v0, ev, _⟩ := hI.look et
    have e0' : evIs (denL G C (i0 :: ixs).reverse.reverse) ρ = some (ks, ρ1) := by rw [List.reverse_reverse]; exact e0
    have z0 := path_env (G := G) (C := C) _ _ hp X ok.toXOk _ _ _ _ _ _ _ _ hI e0'
    subst z0
    obtain ⟨r0, e1, eb⟩ := obind ea
    clear ea
    obtain ⟨r, e2, ec⟩ := obind eb
    clear eb
    obtain ⟨ρ', e3, e9⟩ := omap ec
    cases e9
    clear ec
    obtain ⟨a1, a2, a3⟩ := q1 _ _ e1
    obtain ⟨t0, o1, ρ2⟩ := r0
    dsimp only at a1 a2
    subst a1 a2
    have er : r = ⟨t0, .full, _⟩ := (Option.some.inj e2).symm
    subst er
    have hlen := evIs_len e0
    have hks : ks.isEmpty = false := by
      cases ks with
      | nil => simp [denL] at hlen
      | cons _ _ => rfl
    unfold modS at e3
    split at e3
    · rename_i t1 o1 e4
      obtain ⟨t2, e5, e3⟩ := obind e3
      obtain ⟨o2, e6, e7⟩ := omap e3
      subst e7
      have ho : o1 = .full ∧ o2 = .full := by
        rw [hks] at e6
        cases o1 <;> simp [modO, Own.isFull] at e6
        exact ⟨rfl, e6.symm⟩
      obtain ⟨rfl, rfl⟩ := ho
      obtain ⟨v', ev', nv', h3⟩ := hI.mov e4
      rw [ev] at ev'; cases ev'
      obtain ⟨Dd, ws, pp, hD, hz, fin⟩ := h3.appP nv e5
      have go := (q2 H0 F0 _ σ τ H ks _ (fun x H1 => tyV X.K "list" x H1 ∧ tCons te tNil σ H1 fun xs H2 => rAppend x xs H2 fun _ H3 => D.nx σ H3) v0 (.ref Dd) hI e0' ev pp).2
      refine go ⟨.inl ⟨rfl, ws, .inl (.inl hD)⟩, a3 σ H _ fun H' v fy s hy ny ry => ?_⟩
      refine ⟨Dd, ws, v, rfl, rfl, s _ _ hD, hz, ?_⟩
      have h4 := fin H' v fy s hy ny ry
      have h5 := h4.put (i := i) rfl (by rw [List.length_set]; exact (List.getElem?_eq_some_iff.mp e4).1)
      rw [set_set, set_self ev] at h5
      exact q _ h5
    · cases e3
  · cases e
theorem ss_setiP {i : Nat} {i0 : E} {ixs : List E} {e kx : E} {p2 p3 : Pos} {po pk pe : Expr} (hp : mPath U N sc i (i0 :: ixs).reverse po = true) (hsl : isSl pk = false) (hk : SP_ P w K mg base k N sc (den G C kx) pk) (he : SV P w K mg base k N sc (den G C e) pe) :
    SS P w K mg base k N sc (exS G C (.seti i (i0 :: ixs) kx e)) (.Assign [.Subscript po pk p2] pe p3) := fun X ok => by
  obtain ⟨te, h1, q1⟩ := he X ok.toXOk
  obtain ⟨tk, hk1, qk⟩ := hk X ok.toXOk
  obtain ⟨tp, h2, q2⟩ := path_ok (G := G) (C := C) _ _ hp X ok.toXOk
  refine ⟨_, ps_asg h1 (pg_sub h2 hk1 set_list (fun v => by cases pk <;> first | rfl | cases hsl)) (swS (a := po) (b := pk) (p := p2) pe p3.line X.env) rfl rfl, fun H0 F0 ρ σ τ H fl D hI nv e => ?_⟩
  intro q
  simp only [exS] at e
  obtain ⟨r0, e1, ea⟩ := obind e
  clear e
  obtain ⟨r, e2, eb⟩ := obind ea
  clear ea
  split at eb
  · rename_i t0 et
    obtain ⟨kx', e0, ec⟩ := obind eb
    clear eb
    obtain ⟨rk, e3, ed⟩ := obind ec
    clear ec
    refine q1 _ _ _ _ _ _ r0 _ hI (fun _ => nv) e1 fun y H1 hI1 l1 => ?_
    obtain ⟨n, h2'⟩ := hI1.val e2 l1
    obtain ⟨v0, ev, _⟩ := h2'.look (t := t0.1) (o := t0.2) et
    obtain ⟨ks, ρ1⟩ := kx'
    have e0' : evIs (denL G C (i0 :: ixs).reverse.reverse) r.ρ = some (ks, ρ1) := by rw [List.reverse_reverse]; exact e0
    have z0 := path_env (G := G) (C := C) _ _ hp X ok.toXOk _ _ _ _ _ _ _ _ h2' e0'
    subst z0
    obtain ⟨tk', ok', ρk⟩ := rk
    cases tk' with
    | int kk =>
      have zk := (qk H0 F0 _ σ _ H1 kk ok' ρk (fun _ _ => True) h2' e3).1
      subst zk
      obtain ⟨ρ', e4, rfl⟩ := omap ed
      clear ed
      have hlen := evIs_len e0
      have hks : ks.isEmpty = false := by
        cases ks with
        | nil => simp [denL] at hlen
        | cons _ _ => rfl
      unfold modS at e4
      split at e4
      · rename_i t1 o1 e5
        obtain ⟨t2, e6, e4a⟩ := obind e4
        clear e4
        obtain ⟨o2, e7, rfl⟩ := omap e4a
        clear e4a
        have ho : o1 = .full ∧ o2 = .full ∧ r.o = .full := by
          have e7' := e7
          rw [hks] at e7'
          cases o1 <;> simp only [modO, Bool.not_false] at e7' <;> (try cases e7')
          · split at e7'
            · rename_i hf; cases e7'; exact ⟨rfl, rfl, full_of hf⟩
            · simp at e7'
        obtain ⟨rfl, rfl, hro⟩ := ho
        obtain ⟨v', ev', nv', h3⟩ := h2'.mov e5
        rw [ev] at ev'; cases ev'
        rw [hro] at h3
        obtain ⟨Dd, ws, ys, ys', ef, pp, hD, hlw, h4⟩ := I.modP (g := fun ws => match ixN ws.length kk with | some j => ws.set j y | none => ws) h3.swap nv e6 (fun x x' hx => by
          cases x <;> simp only [setV] at hx <;> (try cases hx)
          rename_i ys
          obtain ⟨j, hj, rfl⟩ := omap hx
          refine ⟨ys, ys.set j r.t, rfl, rfl, fun F H ws fk fy r1 r2 => ?_⟩
          have hl := r1.len
          have hj' := ixN_seq hj
          obtain ⟨fp', k3, l, rr, m, p1, p2⟩ := RpL.setF j r1 r2 (by omega)
          refine ⟨fp', m, ?_, ?_⟩
          · rw [← hl, hj]; exact k3
          · subst p1 p2
            refine List.perm_iff_count.mpr fun z => ?_
            simp only [List.count_append]
            omega)
        simp only [setV] at ef
        obtain ⟨j, hj, _⟩ := omap ef
        rw [hlw] at hj
        have h5 := h4.put (i := i) rfl (by rw [List.length_set]; exact (List.getElem?_eq_some_iff.mp e5).1)
        rw [set_set, set_self ev] at h5
        rw [hj] at h5
        refine (q2 H0 F0 _ σ _ H1 ks _ (fun x H2 => tk σ H2 fun kv H3 => _) v0 (.ref Dd) h2' e0' ev pp).2 ?_
        refine (qk H0 F0 _ σ _ H1 kk ok' _ _ h2' e3).2 ?_
        exact ⟨Dd, ws, kk, j, rfl, rfl, hD, hj, q _ _ h5⟩
      · cases e4
    | _ => cases ed
  · cases eb
theorem ss_exp {e : E} {pe : Expr} {p : Pos} (hc : isLc pe = false) (he : SV P w K mg base k N sc (den G C e) pe) : SS P w K mg base k N sc (exS G C (.exp e)) (.Expr pe p) := fun X ok => by
  obtain ⟨te, h1, q1⟩ := he X ok.toXOk
  have sw : swapsWith pe none p.line X.env = pure false := by cases pe <;> first | rfl | cases hc
  refine ⟨_, ps_expr h1 sw, fun H0 F0 ρ σ τ H fl D hI nv e q => ?_⟩
  simp only [exS] at e
  obtain ⟨r, e1, rfl⟩ := omap e
  exact q1 _ _ _ _ _ _ r _ hI (fun _ => nv) e1 fun v H1 hI1 l1 => q _ _ hI1.drop
theorem ss_ret {e : E} {pe : Expr} {p : Pos} (he : SV P w K mg base k N sc (den G C e) pe) : SS P w K mg base k N sc (exS G C (.ret e)) (.Return (some pe) p) := fun X ok => by
  obtain ⟨te, h1, q1⟩ := he X ok.toXOk
  refine ⟨_, ps_ret h1, fun H0 F0 ρ σ τ H fl D hI nv e q => ?_⟩
  simp only [exS] at e
  obtain ⟨r0, e1, e⟩ := obind e
  obtain ⟨r, e2, rfl⟩ := omap e
  refine q1 _ _ _ _ _ _ r0 _ hI (fun _ => nv) e1 fun v H1 hI1 l1 => ?_
  obtain ⟨n, h2⟩ := hI1.val e2 l1
  exact q _ _ _ _ h2 n
theorem ss_retN {p : Pos} : SS P w K mg base k N sc (exS G C .retN) (.Return none p) := fun X ok =>
  ⟨_, ps_retN, fun H0 F0 ρ σ τ H fl D hI nv e q => by
    simp only [exS, Option.some.injEq] at e
    subst e
    exact q _ _ _ _ hI.non rfl⟩
theorem ss_ite {c : E} {a b : List S} {pc : Expr} {pa pb : List Stmt} {p : Pos} (hc : ST P w K mg base k N sc (den G C c) pc) (ha : SSs P w K mg base k N sc (exSs G C a) pa) (hb : SSs P w K mg base k N sc (exSs G C b) pb) :
    SS P w K mg base k N sc (exS G C (.ite c a b)) (.If pc pa pb p) := fun X ok => by
  obtain ⟨tc, h1, q1⟩ := hc X ok.toXOk
  obtain ⟨t2, h2, q2⟩ := ha X ok
  obtain ⟨t3, h3, q3⟩ := hb X ok
  refine ⟨_, ps_if h1 h2 h3, fun H0 F0 ρ σ τ H fl D hI nv e q => ?_⟩
  simp only [exS] at e
  obtain ⟨kk, e1, e⟩ := obind e
  refine q1 _ _ _ _ _ _ kk _ hI (fun _ => nv) e1 fun H1 hI1 => ?_
  cases hk : kk.1 with
  | true =>
    rw [hk] at e
    simp only [if_true] at e ⊢
    exact q2 _ _ _ _ _ _ _ _ hI1 nv e q
  | false =>
    rw [hk] at e
    simp only [Bool.false_eq_true, if_false] at e ⊢
    exact q3 _ _ _ _ _ _ _ _ hI1 nv e q
theorem ss_whl {c : E} {b : List S} {pc : Expr} {pb : List Stmt} {p : Pos} (hc : ST P w K mg base k N sc (den G C c) pc) (hb : SSs P w K mg base k N sc (exSs G C b) pb) :
    SS P w K mg base k N sc (exS G C (.whl c b)) (.While pc pb [] p) := fun X ok => by
  obtain ⟨tc, h1, q1⟩ := hc X ok.toXOk
  obtain ⟨t2, h2, q2⟩ := hb X ok
  refine ⟨_, ps_while ok.own h1 h2, fun H0 F0 ρ σ τ H fl D hI nv e q => ?_⟩
  simp only [exS] at e
  refine ⟨fun m σ H => ∃ ρ, whlLoop (den G C c).t (exSs G C b) m ρ = some fl ∧ I K H0 F0 ρ σ τ H, ⟨_, ρ, e, hI⟩, ?_⟩
  rintro m σ1 H1 ⟨ρ1, e, hI⟩
  cases m with
  | zero => simp [whlLoop] at e
  | succ m =>
    simp only [whlLoop] at e
    obtain ⟨kk, e1, e⟩ := obind e
    refine q1 _ _ _ _ _ _ kk _ hI (fun _ => nv) e1 fun H2 hI1 => ?_
    cases hk : kk.1 with
    | false =>
      rw [hk] at e
      simp only [Bool.false_eq_true, if_false, Option.some.injEq] at e ⊢
      subst e
      exact q _ _ hI1
    | true =>
      rw [hk] at e
      simp only [if_true] at e ⊢
      obtain ⟨f, e2, e⟩ := obind e
      refine ⟨fun σ' H' => ∃ ρ, whlLoop (den G C c).t (exSs G C b) m ρ = some fl ∧ I K H0 F0 ρ σ' τ H', fun σ' H' h => ⟨m, by omega, h⟩, ?_⟩
      refine q2 _ _ _ _ _ _ f _ hI1 nv e2 ?_
      cases f with
      | nx ρ' => exact fun σ' H' h => ⟨ρ', e, h⟩
      | ct ρ' => exact fun σ' H' h => ⟨ρ', e, h⟩
      | bk ρ' =>
        simp only [Fl.turn, Option.some.injEq] at e
        subst e
        exact fun σ' H' h => q _ _ h
      | rt t o =>
        simp only [Fl.turn, Option.some.injEq] at e
        subst e
        exact fun ρ' σ' v H' h n => q _ _ _ _ h n
theorem ss_for {tg : Tg} {it : E} {b : List S} {ptg pit : Expr} {pb : List Stmt} {p : Pos} (hg : mG N sc tg ptg = true) (hi : SI P w K mg base k N sc (den G C it) ptg pit) (hf : ∀ env x, foldedSetIterable pit env x = pure x) (hb : SSs P w K mg base k N sc (exSs G C b) pb) :
    SS P w K mg base k N sc (exS G C (.for_ tg it b)) (.For ptg pit pb [] p) := fun X ok => by
  obtain ⟨wi, h1, q1⟩ := hi X ok.toXOk
  obtain ⟨t2, h2, q2⟩ := hb X ok
  refine ⟨_, ps_for ok.own ok.calm h1 (pg_ok ok.tok hg) h2 (hf X.env), fun H0 F0 ρ σ τ H fl D hI nv e q => ?_⟩
  simp only [exS] at e
  obtain ⟨x, e1, e⟩ := obind e
  obtain ⟨xs, ρ1⟩ := x
  refine q1 _ _ _ _ _ _ _ _ hI (fun _ => nv) e1 fun J g H1 hW h1 => ?_
  refine ⟨fun i m σ H => m = xs.length - i ∧ i ≤ xs.length ∧ ∃ ρi, forLoop (fun x ρ => bindT tg x .cold ρ) (exSs G C b) (xs.drop i) ρi = some fl ∧ I K H0 F0 ρi σ (g :: τ) H, ⟨xs.length, by simp, Nat.zero_le _, ρ1, by simpa using e, h1⟩, ?_⟩
  rintro i m σ2 H2 ⟨rfl, hle, ρi, el, h3⟩
  by_cases hlt : i < xs.length
  · refine .inr ⟨hW.go i _ _ _ _ _ _ h3 hlt, _, fun σ' H' nx => ⟨xs.length - (i + 1), by omega, nx⟩, fun v H6 hy => ?_⟩
    rw [List.drop_eq_getElem_cons hlt] at el
    simp only [forLoop] at el
    obtain ⟨ρ2, e3, el⟩ := obind el
    obtain ⟨f, e4, el⟩ := obind el
    have h4 := hW.yld i xs[i] _ _ _ _ _ _ v H6 h3 (List.getElem?_eq_getElem hlt) hy
    refine gT_ok h4 rfl e3 fun σ3 h5 _ => ?_
    have nv2 : NoV (g :: τ) := nv.cons (by rw [hW.cold]; rfl)
    refine q2 _ _ _ _ _ _ f _ h5 nv2 e4 ?_
    cases f with
    | nx ρ' => exact fun σ' H' h => ⟨rfl, hlt, ρ', el, h⟩
    | ct ρ' => exact fun σ' H' h => ⟨rfl, hlt, ρ', el, h⟩
    | bk ρ' =>
      simp only [Fl.turn, Option.some.injEq] at el
      subst el
      exact fun σ' H' h => q _ _ h.drop
    | rt t o =>
      simp only [Fl.turn, Option.some.injEq] at el
      subst el
      exact fun ρ' σ' v H' h n => q _ _ _ _ h.drop2 n
  · have ei : i = xs.length := by omega
    subst ei
    rw [List.drop_length] at el
    simp only [forLoop, Option.some.injEq] at el
    subst el
    exact .inl ⟨hW.stop _ _ _ _ _ _ _ h3 (Nat.le_refl _), q _ _ h3.drop⟩
theorem ss_pass {st : Stmt} (h : ∀ X : Cx, PS X st tNext) : SS P w K mg base k N sc (exS G C .pass) st := fun X ok =>
  ⟨_, h X, fun H0 F0 ρ σ τ H fl D hI nv e q => by
    simp only [exS, Option.some.injEq] at e
    subst e
    exact q _ _ hI⟩
theorem ss_brk {p : Pos} : SS P w K mg base k N sc (exS G C .brk) (.Break p) := fun X ok =>
  ⟨_, ps_break, fun H0 F0 ρ σ τ H fl D hI nv e q => by
    simp only [exS, Option.some.injEq] at e
    subst e
    exact q _ _ hI⟩
theorem ss_cnt {p : Pos} : SS P w K mg base k N sc (exS G C .cnt) (.Continue p) := fun X ok =>
  ⟨_, ps_continue, fun H0 F0 ρ σ τ H fl D hI nv e q => by
    simp only [exS, Option.some.injEq] at e
    subst e
    exact q _ _ hI⟩
theorem sss_nil : SSs P w K mg base k N sc (exSs G C []) [] := fun X ok =>
  ⟨_, pss_nil, fun H0 F0 ρ σ τ H fl D hI nv e q => by
    simp only [exSs, Option.some.injEq] at e
    subst e
    exact q _ _ hI⟩
theorem sss_cons {s : S} {ss : List S} {st : Stmt} {sts : List Stmt} (h1 : SS P w K mg base k N sc (exS G C s) st) (h2 : SSs P w K mg base k N sc (exSs G C ss) sts) : SSs P w K mg base k N sc (exSs G C (s :: ss)) (st :: sts) := fun X ok => by
  obtain ⟨t1, p1, q1⟩ := h1 X ok
  obtain ⟨t2, p2, q2⟩ := h2 X ok
  refine ⟨_, pss_cons p1 p2, fun H0 F0 ρ σ τ H fl D hI nv e q => ?_⟩
  simp only [exSs] at e
  obtain ⟨f, e1, e⟩ := obind e
  refine q1 _ _ _ _ _ _ f _ hI nv e1 ?_
  cases f with
  | nx ρ' => exact fun σ' H' h => q2 _ _ _ _ _ _ _ _ h nv e q
  | ct ρ' => cases e; exact q
  | bk ρ' => cases e; exact q
  | rt t o => cases e; exact q
/-- what the call does -/
def ownT (G : List Nat → Option T) (C : List Nat → List T → Option (T × Own)) (i : Nat) (ixs : List E) (f : List Nat) (j : Nat) (jxs : List E) (ρ : Env) : Option (Bool × Env) :=
  (evIs (denL G C ixs) ρ).bind fun ks => (evIs (denL G C jxs) ks.2).bind fun ls => ownR C i ks.1 f j ls.1 ls.2
def ownD (G : List Nat → Option T) (C : List Nat → List T → Option (T × Own)) (i : Nat) (ixs : List E) (f : List Nat) (j : Nat) (jxs : List E) : Den := ⟨true, fun _ => none, ownT G C i ixs f j jxs, fun _ => none⟩
def notD (d : Den) : Den := ⟨d.c, fun _ => none, fun ρ => (d.t ρ).map fun k => (!k.1, k.2), fun _ => none⟩
theorem ownR_inv {C : List Nat → List T → Option (T × Own)} {i j : Nat} {ks ls : List Int} {f : List Nat} {ρ : Env} {r : Bool × Env} (h : ownR C i ks f j ls ρ = some r) : ∃ t u oj t0 u0 t1 t2, ρ[i]? = some (some (t, .full)) ∧ ρ[j]? = some (some (u, oj)) ∧ i ≠ j ∧
    getP ks t = some t0 ∧ getP ls u = some u0 ∧ C (0 :: f) [t0, u0] = some (.tup [.bl r.1, t1], .full) ∧ modAt (fun _ => some t1) ks t = some t2 ∧ r.2 = (ρ.set j (some (u, .cold))).set i (some (t2, .full)) := by
  unfold ownR at h
  split at h
  · rename_i t u oj e1 e2
    split at h
    · cases h
    · rename_i hij
      obtain ⟨t0, e3, h⟩ := obind h
      obtain ⟨u0, e4, h⟩ := obind h
      obtain ⟨y, e5, h⟩ := obind h
      split at h
      · rename_i b t1
        obtain ⟨t2, e6, rfl⟩ := omap h
        exact ⟨t, u, oj, t0, u0, t1, t2, e1, e2, hij, e3, e4, e5, e6, rfl⟩
      · cases h
  · cases h
theorem st_own {i j : Nat} {ixs jxs : List E} {f : List Nat} {x : Str} {p0 pos : Pos} {pa pb : Expr} (CO : COk P w K mg base k C) (hg : gnB sc (S8 f) x = true) (ha : mPath U N sc i ixs.reverse pa = true) (hb : mPath U N sc j jxs.reverse pb = true) :
    ST P w K mg base k N sc (ownD G C i ixs f j jxs) (.Call (.Name x p0) [pa, pb] [] pos) := fun X ok => by
  obtain ⟨rfl, a1, a2, a3⟩ := gnOf hg
  by_cases hc : ∃ ts r, C (0 :: f) ts = some r
  · obtain ⟨a, fd, qs, e1, e2, e3, e4, e5⟩ := CO.own f hc
    obtain ⟨tpa, pea, qa⟩ := path_ok (G := G) (C := C) _ _ ha X ok
    obtain ⟨tpb, peb, qb⟩ := path_ok (G := G) (C := C) _ _ hb X ok
    have pla := mPath_pl _ _ ha
    have plb := mPath_pl _ _ hb
    have s2 : starEach [pb] X.env = [(false, eval pb X.env)] := plb.star _ _
    have s1 : starEach [pa, pb] X.env = (false, eval pa X.env) :: starEach [pb] X.env := pla.star _ _
    have s3 : (backTo pos (starEach [pb] X.env)).any (·.1) = false := by rw [s2]; rfl
    have hpa : PA X [pa, pb] (tCons tpa (tCons tpb tNil)) := pa_cons pea (pa_cons peb pa_nil s2) s1
    have i1 := ok.prog; have i2 := ok.w_; have i3 := ok.K_; have i4 := ok.mg_; have i5 := ok.base_
    subst i1 i2 i3 i4 i5
    refine ⟨_, pt_truth (pe_call (E := E0) e4 ok.room (ok.gl a1) e1 e2 e3 .nil pass0 hpa a2 s1 s3) (fun _ => rfl), fun H0 F0 ρ σ τ H r Q hI hv he q => ?_⟩
    have nv : NoV τ := hv rfl
    have he : ownT G C i ixs f j jxs ρ = some r := he
    unfold ownT at he
    obtain ⟨kx, h1, he1⟩ := obind he
    clear he
    obtain ⟨lx, h2, he2⟩ := obind he1
    clear he1
    obtain ⟨ks, ρ1⟩ := kx
    obtain ⟨ls, ρ2⟩ := lx
    have h1' : evIs (denL G C ixs.reverse.reverse) ρ = some (ks, ρ1) := by rw [List.reverse_reverse]; exact h1
    have z1 := path_env (G := G) (C := C) _ _ ha X ok _ _ _ _ _ _ _ _ hI h1'
    subst z1
    have h2' : evIs (denL G C jxs.reverse.reverse) ρ1 = some (ls, ρ2) := by rw [List.reverse_reverse]; exact h2
    have z2 := path_env (G := G) (C := C) _ _ hb X ok _ _ _ _ _ _ _ _ hI h2'
    subst z2
    obtain ⟨t, u, oj, t0, u0, t1, t2, c1, c2, hij, c3, c4, c5, c6, c7⟩ := ownR_inv he2
    obtain ⟨w0, ew, hJ⟩ := hI.share c2
    obtain ⟨w, pw, hJ2⟩ := hJ.getC c4
    have c1' : (ρ2.set j (some (u, .cold)))[i]? = some (some (t, .full)) := by rw [List.getElem?_set_ne (Ne.symm hij)]; exact c1
    obtain ⟨v0, ev, nv0, hM⟩ := hJ2.mov c1'
    obtain ⟨v', Hc, F, fp, pp, sHc, sF, own, nd, rt, rc, back⟩ := hM.ownCall nv c3 c6
    have len := e5 _ _ c5
    refine (qa H0 F0 ρ2 σ τ H ks _ _ v0 v' hI h1' ev pp).2 ((qb H0 F0 ρ2 σ τ H ls _ _ w0 w hI h2' ew pw).2 ⟨by rw [← len]; rfl, Hc, F, t0, [u0], v', [w], fp, r.1, t1, rfl, sHc, sF, own, nd, rt, rc, c5, fun H' hr => ?_⟩)
    have h4 := back H' hr
    have h5 := h4.put (i := i) rfl (by rw [List.length_set]; exact (List.getElem?_eq_some_iff.mp c1').1)
    rw [set_set, set_self ev] at h5
    refine ⟨r.1, tru_of (h5.bl r.1) rfl, q _ ?_⟩
    rw [c7]; exact h5
  · refine ⟨fun _ _ _ => False, ⟨fun _ _ _ _ _ _ z => z.elim⟩, fun H0 F0 ρ σ τ H r Q hI hv he q => ?_⟩
    have he : ownT G C i ixs f j jxs ρ = some r := he
    unfold ownT at he
    obtain ⟨kx, h1, he⟩ := obind he
    obtain ⟨lx, h2, he⟩ := obind he
    obtain ⟨t, u, oj, t0, u0, t1, t2, c1, c2, hij, c3, c4, c5, c6, c7⟩ := ownR_inv he
    exact hc ⟨_, _, c5⟩
theorem st_notD {d : Den} {pa : Expr} {pos : Pos} (ha : ST P w K mg base k N sc d pa) : ST P w K mg base k N sc (notD d) (.UnaryOp .Not pa pos) := fun X ok => by
  obtain ⟨ta, p1, q1⟩ := ha X ok
  refine ⟨_, pt_not p1, fun H0 F0 ρ σ τ H r Q hI hv he q => ?_⟩
  have he : (d.t ρ).map (fun k => (!k.1, k.2)) = some r := he
  obtain ⟨ra, e1, rfl⟩ := omap he
  exact q1 _ _ _ _ _ _ ra _ hI hv e1 fun H1 hI1 => q H1 hI1
theorem st_mOwn {i j : Nat} {ixs jxs : List E} {f : List Nat} {pe : Expr} (CO : COk P w K mg base k C) (h : mOwn U N sc i ixs f j jxs pe = true) : ST P w K mg base k N sc (notD (ownD G C i ixs f j jxs)) pe := by
  unfold mOwn at h
  split at h
  · simp only [Bool.and_eq_true] at h
    exact st_notD (st_own CO h.1.1 h.1.2 h.2)
  · cases h
theorem sts_mOrs {i j : Nat} {ixs jxs : List E} {f : List Nat} (M : MOk K mg U G) (CO : COk P w K mg base k C) : ∀ {cs : List E} {ps : List Expr}, mOrs U N sc i ixs f j jxs cs ps = true → STs P w K mg base k N sc (denL G C cs ++ [notD (ownD G C i ixs f j jxs)]) ps
  | [], ps, h => by
    unfold mOrs at h
    split at h
    · exact .cons (st_mOwn CO h) .nil
    · cases h
  | c :: cs, ps, h => by
    unfold mOrs at h
    split at h
    · simp only [Bool.and_eq_true] at h
      exact .cons (okE M CO c sc _ h.1).t (sts_mOrs M CO h.2)
    · cases h
theorem orTs_snoc {d : Den} : ∀ {ds : List Den} {ρ : Env}, orTs (ds ++ [d]) ρ = (orF ds ρ).bind fun k => if k.1 then some (true, k.2) else d.t k.2
  | [], ρ => rfl
  | [a], ρ => by
    show (a.t ρ).bind _ = _
    simp only [orF]
    cases a.t ρ with
    | none => rfl
    | some k =>
      obtain ⟨b, ρ1⟩ := k
      cases b <;> rfl
  | a :: b :: ds, ρ => by
    have ih := @orTs_snoc d (b :: ds)
    show (a.t ρ).bind (fun k => if k.1 then some (true, k.2) else orTs ((b :: ds) ++ [d]) k.2) = _
    have e : orF (a :: b :: ds) ρ = (a.t ρ).bind fun k => if k.1 then some (true, k.2) else orF (b :: ds) k.2 := rfl
    rw [e]
    cases a.t ρ with
    | none => rfl
    | some k =>
      obtain ⟨b', ρ1⟩ := k
      cases b'
      · exact ih
      · rfl
theorem ss_asr {cs : List E} {i j : Nat} {ixs jxs : List E} {f : List Nat} {pc : Expr} {p p1 p2 : Pos} {n : Nat} (M : MOk K mg U G) (CO : COk P w K mg base k C) (h : mAsr U N sc cs i ixs f j jxs pc = true) :
    SS P w K mg base k N sc (exS G C (.asr cs i ixs f j jxs)) (.If pc [.Return (some (.Constant (.bool false) n p1)) p2] [] p) := fun X ok => by
  have hT : ∃ tc, PT X pc tc ∧ ∀ H0 F0 ρ σ τ H r Q, I K H0 F0 ρ σ τ H → NoV τ → orTs (denL G C cs ++ [notD (ownD G C i ixs f j jxs)]) ρ = some r → (∀ H', I K H0 F0 r.2 σ τ H' → Q r.1 H') → tc σ H Q := by
    unfold mAsr at h
    split at h
    · obtain ⟨t, p, q⟩ := pw_orL (sts_mOrs (G := G) (C := C) M CO h) X ok.toXOk
      exact ⟨t, p.pt, fun H0 F0 ρ σ τ H r Q hI hv he => q _ _ _ _ _ _ r _ hI (fun _ => hv) he⟩
    · simp only [Bool.and_eq_true] at h
      obtain ⟨t, p, q⟩ := st_mOwn (G := G) (C := C) CO h.2 X ok.toXOk
      have : cs = [] := by simpa using h.1
      subst this
      exact ⟨t, p, fun H0 F0 ρ σ τ H r Q hI hv he => q _ _ _ _ _ _ r _ hI (fun _ => hv) he⟩
  obtain ⟨tc, h1, q1⟩ := hT
  have hr : SS P w K mg base k N sc (exS G C (.ret (.bl false))) (.Return (some (.Constant (.bool false) n p1)) p2) := ss_ret (okE M CO (.bl false) sc _ (by unfold mE; rfl)).v
  obtain ⟨t2, h2, q2⟩ := sss_cons hr (sss_nil (G := G) (C := C)) X ok
  refine ⟨_, ps_if h1 h2 pss_nil, fun H0 F0 ρ σ τ H fl D hI nv e q => ?_⟩
  simp only [exS] at e
  obtain ⟨k0, e1, e⟩ := obind e
  have key : ∃ kk, orTs (denL G C cs ++ [notD (ownD G C i ixs f j jxs)]) ρ = some kk ∧ fl = (if kk.1 then .rt (.bl false) .full else .nx kk.2) := by
    rw [orTs_snoc, e1, Option.bind_some]
    split at e
    · rename_i hk
      cases e
      exact ⟨(true, k0.2), by rw [if_pos hk], rfl⟩
    · rename_i hk
      obtain ⟨ks, e2, e⟩ := obind e
      obtain ⟨ls, e3, e⟩ := obind e
      obtain ⟨r, e4, e⟩ := obind e
      refine ⟨(!r.1, r.2), ?_, ?_⟩
      · rw [if_neg hk]
        show ((ownT G C i ixs f j jxs k0.2).map fun k => (!k.1, k.2)) = _
        unfold ownT
        rw [e2, Option.bind_some, e3, Option.bind_some, e4]
        rfl
      · cases hb : r.1 <;> rw [hb] at e <;> cases e <;> rfl
  obtain ⟨kk, e2, rfl⟩ := key
  refine q1 _ _ _ _ _ _ kk _ hI nv e2 fun H1 hI1 => ?_
  obtain ⟨b, ρ1⟩ := kk
  cases b with
  | true =>
    exact iteT (q2 _ _ _ _ _ _ (.rt (.bl false) .full) _ hI1 nv (by simp [exSs, exS, den, valD, val, Fl.seq]) q)
  | false => exact iteF (q _ _ hI1)
mutual
theorem okS (M : MOk K mg U G) (CO : COk P w K mg base k C) : ∀ (s : S) (sc : Scope) (st : Stmt), mS U N sc s st = true → SS P w K mg base k N sc (exS G C s) st
  | .set i e, sc, st, h => by
    unfold mS at h
    split at h
    · simp only [Bool.and_eq_true, decide_eq_true_eq, Bool.not_eq_true'] at h
      obtain ⟨⟨⟨h1, h2⟩, h3⟩, h4⟩ := h
      exact ss_set h1 h2 h3 (okE M CO e sc _ h4).v
    · cases h
  | .setc i elt tg it ifs own, sc, st, h => by
    unfold mS at h
    split at h
    · simp only [Bool.and_eq_true, decide_eq_true_eq] at h
      obtain ⟨⟨h1, h2⟩, h⟩ := h
      unfold mE at h
      split at h
      · simp only [Bool.and_eq_true, decide_eq_true_eq] at h
        obtain ⟨⟨⟨⟨⟨⟨⟨⟨g1, g2⟩, ht⟩, g3⟩, g4⟩, g5⟩, g6⟩, g7⟩, g8⟩ := h
        have i1 := okE M CO it sc _ g3
        have i2 := okEs M CO ifs _ _ g6
        have i3 := okE M CO elt _ _ g7
        have z := fun p1 p2 pos => ss_setc (G := G) (C := C) (elt := elt) (it := it) (p1 := p1) (p2 := p2) (pos := pos) h1 h2 (i1.i _ fun e => isTp_of (by rw [e] at ht; simpa using ht) g4) g1 g4 (by rw [g2]; exact g5) (i2.2.one g8) i3.v i1.pl.fsi
        simp only [g2] at z
        exact z _ _ _
      · cases h
    · cases h
  | .asg tg e, sc, st, h => by
    unfold mS at h
    split at h
    · simp only [Bool.and_eq_true] at h
      obtain ⟨⟨⟨h1, h2⟩, h3⟩, h4⟩ := h
      exact ss_asg h1 h2 h3 (okE M CO e sc _ h4).v
    · cases h
  | .par i j a b, sc, st, h => by
    unfold mS at h
    split at h
    · simp only [Bool.and_eq_true, decide_eq_true_eq, Bool.not_eq_true'] at h
      obtain ⟨⟨⟨⟨⟨⟨⟨⟨⟨⟨⟨h1, h2⟩, h3⟩, h4⟩, h5⟩, h6⟩, h7⟩, h8⟩, h9⟩, h10⟩, h11⟩, h12⟩ := h
      have i1 := okE M CO a sc _ h11
      have i2 := okE M CO b sc _ h12
      exact ss_par h1 h2 h3 h4 h5 h6 h7 h8 h9 h10 i1.v i1.pl i2.v i2.pl
    · cases h
  | .aug i op e, sc, st, h => by
    unfold mS at h
    split at h
    · simp only [Bool.and_eq_true, decide_eq_true_eq] at h
      obtain ⟨⟨⟨h1, h2⟩, h3⟩, h4⟩ := h
      subst h3
      exact ss_aug h1 h2 (okE M CO e sc _ h4).v
    · cases h
  | .app i ixs e, sc, st, h => by
    unfold mS at h
    split at h
    · simp only [Bool.and_eq_true, decide_eq_true_eq] at h
      obtain ⟨⟨⟨⟨h1, h2⟩, h3⟩, h4⟩, h5⟩ := h
      have i1 := okE M CO e sc _ h5
      cases ixs with
      | nil =>
        simp only [List.reverse_nil, mPath] at h1
        split at h1
        · exact ss_app h1 h2 h3 i1.v i1.pl
        · cases h1
      | cons i0 ixs =>
        have hsa : isSA e = true := by simpa using h4
        exact ss_appP h1 h2 h3 (okY M CO e sc _ hsa h5) i1.pl (mPath_pl _ _ h1)
    · cases h
  | .seti i ixs kx e, sc, st, h => by
    unfold mS at h
    split at h
    · simp only [Bool.and_eq_true, Bool.not_eq_true'] at h
      obtain ⟨⟨⟨⟨h1, h2⟩, h3⟩, h4⟩, h5⟩ := h
      cases ixs with
      | nil =>
        simp only [List.reverse_nil, mPath] at h1
        split at h1
        · exact ss_seti h1 h3 (okE M CO kx sc _ h4).v (okE M CO e sc _ h5).v
        · cases h1
      | cons i0 ixs =>
        have hpi : isPI kx = true := by simpa using h2
        exact ss_setiP h1 h3 (pint (P := P) (w := w) (K := K) (mg := mg) (base := base) (k := k) (G := G) (C := C) kx sc _ hpi h4).1 (okE M CO e sc _ h5).v
    · cases h
  | .asr cs i ixs f j jxs, sc, st, h => by
    unfold mS at h
    split at h
    · exact ss_asr M CO h
    · cases h
  | .exp e, sc, st, h => by
    unfold mS at h
    split at h
    · simp only [Bool.and_eq_true, Bool.not_eq_true'] at h
      exact ss_exp h.1 (okE M CO e sc _ h.2).v
    · cases h
  | .ret e, sc, st, h => by
    unfold mS at h
    split at h
    · exact ss_ret (okE M CO e sc _ h).v
    · cases h
  | .retN, sc, st, h => by
    unfold mS at h
    split at h
    · exact ss_retN
    · cases h
  | .ite c a b, sc, st, h => by
    unfold mS at h
    split at h
    · simp only [Bool.and_eq_true] at h
      obtain ⟨⟨h1, h2⟩, h3⟩ := h
      exact ss_ite (okE M CO c sc _ h1).t (okSs M CO a sc _ h2) (okSs M CO b sc _ h3)
    · cases h
  | .whl c b, sc, st, h => by
    unfold mS at h
    split at h
    · simp only [Bool.and_eq_true] at h
      exact ss_whl (okE M CO c sc _ h.1).t (okSs M CO b sc _ h.2)
    · cases h
  | .for_ tg it b, sc, st, h => by
    unfold mS at h
    split at h
    · simp only [Bool.and_eq_true] at h
      obtain ⟨⟨⟨h1, h2⟩, h3⟩, h4⟩ := h
      have i1 := okE M CO it sc _ h3
      exact ss_for h2 (i1.i _ fun e => isTp_of (by rw [e] at h1; simpa using h1) h2) i1.pl.fsi (okSs M CO b sc _ h4)
    · cases h
  | .pass, sc, st, h => by
    unfold mS at h
    split at h
    · exact ss_pass fun X => ps_pass
    · exact ss_pass fun X => ps_doc
    · cases h
  | .brk, sc, st, h => by
    unfold mS at h
    split at h
    · exact ss_brk
    · cases h
  | .cnt, sc, st, h => by
    unfold mS at h
    split at h
    · exact ss_cnt
    · cases h
theorem okSs (M : MOk K mg U G) (CO : COk P w K mg base k C) : ∀ (ss : List S) (sc : Scope) (sts : List Stmt), mSs U N sc ss sts = true → SSs P w K mg base k N sc (exSs G C ss) sts
  | [], sc, sts, h => by
    unfold mSs at h
    split at h
    · exact sss_nil
    · cases h
  | s :: ss, sc, sts, h => by
    unfold mSs at h
    split at h
    · simp only [Bool.and_eq_true] at h
      exact sss_cons (okS M CO s sc _ h.1) (okSs M CO ss sc _ h.2)
    · cases h
end
/-- what such a def may do: tests, and appends behind places of its first slot -/
def ownS : S → Bool
  | .app 0 (_ :: _) _ => true
  | .ite _ [.ret (.bl false)] [] => true
  | _ => false
def ownB : List S → Bool
  | [] => true
  | s :: r => ownS s && ownB r
/-- a value that there is not: a test that fails is not gone through -/
def badE : E := .ix (.lst []) (.int 0)
def ownM : S → S
  | .ite c [.ret (.bl false)] [] => .ite c [.ret badE] []
  | s => s
theorem bad_ret {ρ : Env} : exSs G C [.ret badE] ρ = none := by
  simp [exSs, exS, badE, den, denL, valD, evL, vo, pickR, ixV, L2.atI, ixN]
theorem ssk_ite {c : E} {pc : Expr} {pa : List Stmt} {p : Pos} (M : MOk K mg U G) (CO : COk P w K mg base k C) (hc : mE U N sc c pc = true) (ha : mSs U N sc [.ret (.bl false)] pa = true) :
    SSk P w K mg base k N sc (exS G C (.ite c [.ret (.bl false)] [])) (.If pc pa [] p) := fun X ok => by
  obtain ⟨tc, h1, q1⟩ := (okE M CO c sc _ hc).t X ok.toXOk
  obtain ⟨t2, h2, q2⟩ := okSs M CO _ sc _ ha X ok
  refine ⟨_, ps_if h1 h2 pss_nil, fun H0 F0 ρ σ τ H ρ9 D hI nv e q => ?_⟩
  simp only [exS] at e
  obtain ⟨kk, e1, e⟩ := obind e
  refine q1 _ _ _ _ _ _ kk _ hI (fun _ => nv) e1 fun H1 hI1 => ?_
  cases hk : kk.1 with
  | true =>
    rw [hk] at e
    simp [exSs, exS, den, valD, val, Fl.seq] at e
  | false =>
    rw [hk] at e
    simp only [Bool.false_eq_true, if_false, exSs, Option.some.injEq, Fl.nx.injEq] at e ⊢
    subst e
    exact q _ hI1
theorem own_run (M : MOk K mg U G) (CO : COk P w K mg base k C) : ∀ (init : List S) (sts : List Stmt), ownB init = true → mSs U N sc (init ++ [.ret (.bl true)]) sts = true → ∀ X, SOk P w K mg base k N sc X → ∃ t, PSs X sts t ∧ ∀ H0 F0 ρ σ τ H b t1 D, I K H0 F0 ρ σ τ H → NoV τ →
    exSs G C (init.map ownM ++ [.ret (.tup [.bl true, .mov 0])]) ρ = some (.rt (.tup [.bl b, t1]) .full) → (∀ v0 ρ' σ' H', σ[0]? = some (some v0) → I K H0 F0 ρ' σ' (g1 .full t1 v0 :: τ) H' → D.rt (.bl b) H') → t D σ H
  | [], sts, hb, hm, X, ok => by
    obtain ⟨t, p1, q1⟩ := okSs M CO _ sc _ hm X ok
    refine ⟨t, p1, fun H0 F0 ρ σ τ H b t1 D hI nv e q => ?_⟩
    have key : ∃ o, ρ[0]? = some (some (t1, o)) ∧ (t1.nl = true ∨ o = .full) ∧ b = true := by
      simp only [List.map_nil, List.nil_append, exSs, exS, den, denL, valD, evL, Option.bind_some, val] at e
      cases h0 : ρ[0]? with
      | none => rw [h0] at e; simp at e
      | some sl =>
        cases sl with
        | none => rw [h0] at e; simp at e
        | some z =>
          obtain ⟨t, o⟩ := z
          rw [h0] at e
          cases hn : t.nl with
          | true =>
            simp only [hn, if_true, Option.bind_some, val, Option.map_some, evL] at e
            simp [mk, hn, val, Fl.seq, sizeLine_eq, kidO, minO, Own.isFull] at e
            exact ⟨o, by rw [e.2], .inl (by rw [← e.2]; exact hn), e.1⟩
          | false =>
            have hn2 : (T.tup [T.bl true, t]).nl = false := by simp [T.nl, nlL, hn]
            cases o with
            | full =>
              simp only [hn, Bool.false_eq_true, if_false, Option.bind_some, val, Option.map_some, evL] at e
              simp [mk, hn, val, Fl.seq, sizeLine_eq, kidO, minO, Own.isFull] at e
              exact ⟨.full, by rw [e.2], .inr rfl, e.1⟩
            | cold =>
              simp only [hn, Bool.false_eq_true, if_false, Option.bind_some, val, Option.map_some, evL] at e
              simp [mk, hn, hn2, val, Fl.seq, sizeLine_eq, kidO, minO, Own.isFull] at e
            | shal =>
              simp only [hn, Bool.false_eq_true, if_false, Option.bind_some, val, Option.map_some, evL] at e
              simp [mk, hn, hn2, val, Fl.seq, sizeLine_eq, kidO, minO, Own.isFull] at e
            | flds _ =>
              simp only [hn, Bool.false_eq_true, if_false, Option.bind_some, val, Option.map_some, evL] at e
              simp [mk, hn, hn2, val, Fl.seq, sizeLine_eq, kidO, minO, Own.isFull] at e
            | view i =>
              obtain ⟨v, ev, nv', _⟩ := hI.mov h0
              cases nv'
    obtain ⟨o, e0, ho, rfl⟩ := key
    obtain ⟨v0, ev, _, hN⟩ := hI.mov e0
    have hF : I K H0 F0 (ρ.set 0 none) σ (g1 .full t1 v0 :: τ) H := by
      rcases ho with n | rfl
      · exact hN.nl n
      · exact hN
    refine q1 _ _ _ _ _ _ (.rt (.bl true) .full) _ hF (fun g m => by
      rcases List.mem_cons.mp m with rfl | m
      · rfl
      · exact nv g m) (by simp [exSs, exS, den, valD, val, Fl.seq]) ?_
    intro ρ' σ' v H' h _
    have := h.isBl
    subst this
    exact q v0 ρ' σ' H' ev h.drop
  | s :: init, sts, hb, hm, X, ok => by
    have hm' := hm
    simp only [List.cons_append] at hm'
    unfold mSs at hm'
    split at hm'
    · rename_i st sts'
      simp only [Bool.and_eq_true] at hm'
      have hk : ownB init = true ∧ SSk P w K mg base k N sc (exS G C s) st ∧ ∀ ρ f, exS G C (ownM s) ρ = some f → ∃ ρ1, f = .nx ρ1 ∧ exS G C s ρ = some f := by
        unfold ownB at hb
        simp only [Bool.and_eq_true] at hb
        obtain ⟨hs, hb⟩ := hb
        unfold ownS at hs
        split at hs
        · rename_i i0 ixs e
          refine ⟨hb, ?_, fun ρ f hf => ?_⟩
          · have h := hm'.1
            unfold mS at h
            split at h
            · simp only [Bool.and_eq_true, decide_eq_true_eq] at h
              obtain ⟨⟨⟨⟨h1, h2⟩, h3⟩, h4⟩, h5⟩ := h
              have hsa : isSA e = true := by simpa using h4
              exact ssk_appP h1 h2 h3 (okY M CO e sc _ hsa h5) (okE M CO e sc _ h5).pl (mPath_pl _ _ h1)
            · cases h
          · have hf : exS G C (.app 0 (i0 :: ixs) e) ρ = some f := hf
            have hf0 := hf
            simp only [exS] at hf
            split at hf
            · split at hf
              · cases hf
              · obtain ⟨_, _, hf⟩ := obind hf
                obtain ⟨_, _, hf⟩ := obind hf
                obtain ⟨_, _, hf⟩ := obind hf
                obtain ⟨ρ1, _, rfl⟩ := omap hf
                exact ⟨ρ1, rfl, hf0⟩
            · cases hf
        · rename_i c
          refine ⟨hb, ?_, fun ρ f hf => ?_⟩
          · have h := hm'.1
            unfold mS at h
            split at h
            · simp only [Bool.and_eq_true] at h
              obtain ⟨⟨h1, h2⟩, h3⟩ := h
              unfold mSs at h3
              split at h3
              · exact ssk_ite M CO h1 h2
              · cases h3
            · cases h
          · have hf : exS G C (.ite c [.ret badE] []) ρ = some f := hf
            simp only [exS] at hf ⊢
            obtain ⟨kk, hc, hf⟩ := obind hf
            rw [hc, Option.bind_some]
            cases hk : kk.1 <;> rw [hk] at hf
            · simp [exSs] at hf ⊢
              exact ⟨⟨_, hf.symm⟩, hf⟩
            · simp only [if_true, bad_ret] at hf
              cases hf
        · cases hs
      obtain ⟨hb', hs, hf⟩ := hk
      obtain ⟨t1', p1, q1⟩ := hs X ok
      obtain ⟨t2, p2, q2⟩ := own_run M CO init sts' hb' hm'.2 X ok
      refine ⟨_, pss_cons p1 p2, fun H0 F0 ρ σ τ H b t1 D hI nv e q => ?_⟩
      simp only [List.map_cons, List.cons_append, exSs] at e
      obtain ⟨f, e1, e⟩ := obind e
      obtain ⟨ρ1, rfl, e2⟩ := hf _ _ e1
      exact q1 _ _ _ _ _ _ ρ1 _ hI nv e2 fun H' h => q2 _ _ _ _ _ _ b t1 _ h nv e q
    · cases hm'
end
end Ev
namespace Ev
open PySem PySem.Spec PyProof.Rows L2
/-- arguments in their slots, the first one the def's own -/
def startO (n : Nat) : List T → Env
  | [] => startE n []
  | t :: ts => some (t, .full) :: startE (n - 1) ts
def startK (f : List Nat) (n : Nat) (ts : List T) : Env := if isOwn f then startO n ts else startE n ts
/-- a table of defs, run with so many calls within calls -/
def runN (G : List Nat → Option T) (F : List Nat → Option Fn) : Nat → List Nat → List T → Option (T × Own)
  | 0, _, _ => none
  | n + 1, f, ts => (F f).bind fun d => if ts.length = d.np then (exSs G (runN G F n) d.body (startK f d.ns ts)).bind fun
    | .nx _ => some (.non, .full)
    | .rt t o => if o.isView then none else some (t, o)
    | _ => none
    else none
theorem runN_nv {G : List Nat → Option T} {F : List Nat → Option Fn} {n : Nat} {f : List Nat} {ts : List T} {r : T × Own} (h : runN G F n f ts = some r) : r.2.isView = false := by
  cases n with
  | zero => cases h
  | succ n =>
    simp only [runN] at h
    obtain ⟨d, _, h⟩ := obind h
    split at h
    · obtain ⟨fl, _, h⟩ := obind h
      cases fl with
      | nx ρ => cases h; rfl
      | rt t o =>
        simp only at h
        split at h
        · cases h
        · rename_i n; cases h; simpa using n
      | bk ρ => cases h
      | ct ρ => cases h
    · cases h
section
variable {P : Program} {w : World} {K : PySem.W.Frag} {mg : Str → Option Value} {base : Heap} {k : Nat} {N : List Str} {sc : Scope} {U : BF → Bool} {G : List Nat → Option T} {C : List Nat → List T → Option (T × Own)}
variable {H0 F0 H H' F : Hp} {ρ ρ' : Env} {σ : L2.St} {τ : List Gp}
theorem I.bare (h : I K H0 F0 ρ σ τ H) : I K H0 F0 [] [] τ H := by
  obtain ⟨F, fρ, fτ, c⟩ := h
  exact ⟨F, [], fτ, c.fh, c.h0, c.f0, fun a m => c.ow a (by simp at m; simp [m]), by simpa using (List.nodup_append.mp c.nd).2.1, rfl, c.tmp⟩
theorem REnv.start {F H : Hp} : ∀ {ts : List T} {vs : List V}, RpL K F H .cold ts vs [] → ∀ m, REnv K F H (ts.map (fun t => some (t, if t.nl then Own.full else .cold)) ++ List.replicate m none) (vs.map some ++ List.replicate m none) []
  | [], [], _, m => by
    induction m with
    | zero => rfl
    | succ m ih => exact ⟨[], [], rfl, by simpa using ih, rfl⟩
  | [], _ :: _, h, _ => by simp [RpL] at h
  | _ :: _, [], h, _ => by simp [RpL] at h
  | t :: ts, v :: vs, h, m => by
    simp only [RpL] at h
    obtain ⟨f1, f2, h1, h2, e⟩ := h
    have e1 := (List.append_eq_nil_iff.mp e.symm).1
    have e2 := (List.append_eq_nil_iff.mp e.symm).2
    subst e1 e2
    refine ⟨[], [], ⟨?_, v, rfl, ?_⟩, REnv.start h2 m, rfl⟩
    · split <;> rfl
    · split
      · rename_i n; exact (h1.nl n).2 _ _
      · exact h1
theorem I.start {ts : List T} {vs : List V} (s : Same F H) (r : RpL K F H .cold ts vs []) (n : Nat) (hn : N.length = n) : I K H F (startE n ts) (L2.start N vs) [] H := by
  refine ⟨F, [], [], s, fun _ _ e => e, fun _ _ => rfl, fun a m => by simp at m, by simp, ?_, rfl⟩
  unfold startE L2.start
  rw [← r.len, hn]
  exact REnv.start r _
/-- a def's text, its slots and parameters, its object -/
structure DefOk (K : PySem.W.Frag) (mg : Str → Option Value) (U : BF → Bool) (f : List Nat) (d : Fn) : Prop where
  ex : ∃ (a : Addr) (fd : FuncData) (ps N : List Str) (st : Stmt), mg (S8 f) = some (.ref a) ∧ PySem.W.keepIn K (.ref a) = true ∧ Binds K fd ps [] ∧ Fun K (S8 f) (S8 f) st a fd ∧ FnScope N ps (defScope st) ∧ ps.length = d.np ∧ N.length = d.ns ∧ mSs U N (defScope st) d.body (defBody st) = true ∧ topN N = false
/-- the same of a def that changes its first argument -/
structure DefOw (K : PySem.W.Frag) (mg : Str → Option Value) (U : BF → Bool) (f : List Nat) (d : Fn) : Prop where
  ex : ∃ (a : Addr) (fd : FuncData) (ps N : List Str) (st : Stmt) (init : List S), mg (S8 f) = some (.ref a) ∧ PySem.W.keepIn K (.ref a) = true ∧ Binds K fd ps [] ∧ Fun K (S8 f) (S8 f) st a fd ∧ FnScope N ps (defScope st) ∧ ps.length = d.np ∧ N.length = d.ns ∧
    d.body = init.map ownM ++ [.ret (.tup [.bl true, .mov 0])] ∧ ownB init = true ∧ mSs U N (defScope st) (init ++ [.ret (.bl true)]) (defBody st) = true ∧ topN N = false
def DefAny (K : PySem.W.Frag) (mg : Str → Option Value) (U : BF → Bool) (f : List Nat) (d : Fn) : Prop := if isOwn f = true then DefOw K mg U f.tail d else DefOk K mg U f d
theorem fn_ok {f : List Nat} {d : Fn} {st : Stmt} {a : Addr} {fd : FuncData} {ps N : List Str} {n : Nat} {Fs : List Nat → Option Fn} (M : MOk K mg U G) (CO : COk P w K mg base n (runN G Fs n)) (hf : Fs f = some d) (hno : isOwn f = false)
    (FF : Fun K (S8 f) (S8 f) st a fd) (S : FnScope N ps (defScope st)) (h1 : ps.length = d.np) (h2 : N.length = d.ns) (hm : mSs U N (defScope st) d.body (defBody st) = true) (hT : topN N = false) :
    FnOk P w K mg base CX0 (n + 1) a fd ps (spC K ps.length (runN G Fs (n + 1) f)) := by
  refine FF.ok S (fun vs H Q E h => h.1) (fun cdv A outer s H vs Q E hr h => ?_)
  obtain ⟨hl, F, ts, t, o, sm, r, hc, q⟩ := h
  simp only [runN, hf, Option.bind_some] at hc
  split at hc
  · rename_i hts
    obtain ⟨fl, e1, hc⟩ := obind hc
    have e1 : exSs G (runN G Fs n) d.body (startE d.ns ts) = some fl := by
      unfold startK at e1
      rw [hno] at e1
      exact e1
    have ok : SOk P w K mg base n N (defScope st) (cxOf CX0 P w K mg base N (S8 f) (defScope st) a cdv A outer s H E).nox :=
      { prog := rfl, w_ := rfl, K_ := rfl, mg_ := rfl, base_ := rfl, N_ := rfl, nd := S.nd, sc_ := rfl, calm := rfl, room := hr, own := PassesOwn.never, kind := S.kind, fn := fun _ => rfl, gd := fun z => (by rw [hT] at z; cases z) }
    obtain ⟨tt, p1, q1⟩ := okSs M CO d.body (defScope st) (defBody st) hm _ ok
    refine ⟨tt, p1, q1 _ _ _ _ _ _ fl _ (I.start sm r d.ns h2) (fun g m => by cases m) e1 ?_⟩
    cases fl with
    | nx ρ =>
      cases hc
      exact fun σ' H' h => q _ _ h.non.bare
    | rt t' o' =>
      simp only at hc
      split at hc
      · cases hc
      · cases hc
        exact fun ρ' σ' v H' h n => q _ _ h.bare
    | bk ρ => cases hc
    | ct ρ => cases hc
  · cases hc
theorem I.startO {t0 : T} {ts : List T} {v0 : V} {ws : List V} {fp : List Addr} (s0 : Same H0 H) (s : Same F H) (own : ∀ a ∈ fp, H0 a = none ∧ F a = none) (nd : fp.Nodup) (r0 : Rp K F H .full t0 v0 fp) (rc : RpL K F H .cold ts ws []) (n : Nat) (hn : N.length = n) :
    I K H0 F (startO n (t0 :: ts)) (L2.start N (v0 :: ws)) [] H := by
  refine ⟨F, fp, [], s, s0, fun _ _ => rfl, fun a m => own a (by simpa using m), by simpa using nd, ?_, rfl⟩
  have e : n - 1 - ts.length = N.length - (v0 :: ws).length := by
    rw [hn, rc.len, List.length_cons]; omega
  refine ⟨fp, [], ⟨rfl, v0, rfl, r0⟩, ?_, by simp⟩
  unfold startE
  rw [e]
  exact REnv.start rc _
theorem fn_okO {f : List Nat} {d : Fn} {st : Stmt} {a : Addr} {fd : FuncData} {ps N : List Str} {init : List Ev.S} {n : Nat} {Fs : List Nat → Option Fn} (M : MOk K mg U G) (CO : COk P w K mg base n (runN G Fs n)) (hf : Fs (0 :: f) = some d)
    (FF : Fun K (S8 f) (S8 f) st a fd) (SC : FnScope N ps (defScope st)) (h1 : ps.length = d.np) (h2 : N.length = d.ns) (hb : d.body = init.map ownM ++ [.ret (.tup [.bl true, .mov 0])]) (ho : ownB init = true) (hm : mSs U N (defScope st) (init ++ [.ret (.bl true)]) (defBody st) = true) (hT : topN N = false) :
    FnOk P w K mg base CX0 (n + 1) a fd ps (spO K ps.length (runN G Fs (n + 1) (0 :: f))) := by
  refine FF.ok SC (fun vs H Q E h => h.1) (fun cdv A outer s H vs Q E hr h => ?_)
  obtain ⟨hl, H0, F, t0, ts, v0, ws, fp, b, t1, rfl, s0, sF, own, nd, r0, rc, hc, q⟩ := h
  simp only [runN, hf, Option.bind_some] at hc
  split at hc
  · rename_i hts
    obtain ⟨fl, e1, hc⟩ := obind hc
    have e1 : exSs G (runN G Fs n) (init.map ownM ++ [.ret (.tup [.bl true, .mov 0])]) (Ev.startO d.ns (t0 :: ts)) = some fl := by
      rw [← hb]; exact e1
    have hfl : fl = .rt (.tup [.bl b, t1]) .full := by
      cases fl with
      | nx ρ => cases hc
      | rt t' o' =>
        simp only at hc
        split at hc
        · cases hc
        · cases hc; rfl
      | bk ρ => cases hc
      | ct ρ => cases hc
    subst hfl
    have ok : SOk P w K mg base n N (defScope st) (cxOf CX0 P w K mg base N (S8 f) (defScope st) a cdv A outer s H E).nox :=
      { prog := rfl, w_ := rfl, K_ := rfl, mg_ := rfl, base_ := rfl, N_ := rfl, nd := SC.nd, sc_ := rfl, calm := rfl, room := hr, own := PassesOwn.never, kind := SC.kind, fn := fun _ => rfl, gd := fun z => (by rw [hT] at z; cases z) }
    obtain ⟨tt, p1, q1⟩ := own_run M CO init (defBody st) ho hm _ ok
    refine ⟨tt, p1, q1 _ _ _ _ _ _ b t1 _ (I.startO s0 sF own nd r0 rc d.ns h2) (fun g m => by cases m) e1 fun v9 ρ' σ' H' ev h => ?_⟩
    cases ev
    exact q H' h.bare
  · cases hc
/-- every def of a table -/
theorem all_ok {Fs : List Nat → Option Fn} (M : MOk K mg U G) (D : ∀ f d, Fs f = some d → DefAny K mg U f d) : ∀ n, COk P w K mg base n (runN G Fs n)
  | 0 => ⟨fun f h => (by obtain ⟨_, _, h⟩ := h; cases h), fun f _ h => (by obtain ⟨_, _, h⟩ := h; cases h), fun f ts r h => runN_nv h⟩
  | n + 1 => by
    have ih := all_ok M D n
    refine ⟨fun f h => ?_, fun f hno h => ?_, fun f ts r h => runN_nv h⟩
    · obtain ⟨ts, r, h⟩ := h
      cases hf : Fs (0 :: f) with
      | none => simp [runN, hf] at h
      | some d =>
        have DD : DefOw K mg U f d := D (0 :: f) d hf
        obtain ⟨a, fd, ps, N, st, init, e1, e2, e3, e4, e5, e6, e7, e8, e9, e10, e11⟩ := DD.ex
        refine ⟨a, fd, ps, e1, e2, e3, fn_okO M ih hf e4 e5 e6 e7 e8 e9 e10 e11, fun ts r h => ?_⟩
        simp only [runN, hf, Option.bind_some] at h
        split at h
        · rename_i z; rw [z, e6]
        · cases h
    · obtain ⟨ts, r, h⟩ := h
      cases hf : Fs f with
      | none => simp [runN, hf] at h
      | some d =>
        have DD : DefOk K mg U f d := by
          have z := D f d hf
          unfold DefAny at z
          rw [hno] at z
          exact z
        obtain ⟨a, fd, ps, N, st, e1, e2, e3, e4, e5, e6, e7, e8, e9⟩ := DD.ex
        refine ⟨a, fd, ps, e1, e2, e3, fn_ok M ih hf hno e4 e5 e6 e7 e8 e9, fun ts r h => ?_⟩
        simp only [runN, hf, Option.bind_some] at h
        split at h
        · rename_i z; rw [z, e6]
        · cases h
def noLst (K : PySem.W.Frag) : Bool := K.all fun p => match p.2.cls with | .type s => !(s == "list") | _ => true
theorem mem_lkp {α : Type} : ∀ {K : List (Addr × α)} {a : Addr} {o : α}, K.lookup a = some o → (a, o) ∈ K
  | [], _, _, h => by cases h
  | (b, x) :: K, a, o, h => by
    rw [List.lookup_cons] at h
    cases hb : a == b with
    | true =>
      rw [hb] at h
      have e : a = b := by simpa using hb
      cases h
      subst e
      exact List.mem_cons_self
    | false =>
      rw [hb] at h
      exact List.mem_cons_of_mem _ (mem_lkp h)
theorem noLst_of {K : PySem.W.Frag} (h : noLst K = true) {a : Addr} {o : Obj} (e : K.lookup a = some o) : o.cls ≠ .type "list" := by
  intro z
  unfold noLst at h
  rw [List.all_eq_true] at h
  have := h (a, o) (mem_lkp e)
  simp [z] at this
theorem rp_ints {F H : Hp} {o : Own} : ∀ ns : List Int, RpL K F H o (ns.map T.int) (ns.map V.int) []
  | [] => rfl
  | n :: ns => ⟨[], [], by simp [Rp], rp_ints ns, rfl⟩
theorem sp_law {a : Addr} {ns : List Int} {C : List T → Option (T × Own)} {o : Own} {E : XK} (noL : noLst K = true) (hS : SqL K H a (ns.map V.int)) (hC : C [.lst (ns.map T.int)] = some (.bl true, o)) :
    spC K 1 C [.ref a] H (fun v _ => v = .bl true) E := by
  refine ⟨rfl, H, [.lst (ns.map T.int)], .bl true, o, fun _ _ e => e, RpL.one.mpr ?_, hC, fun v H' h => h.isBl⟩
  rcases hS with hS | ⟨ob, its, n, hk, hc, _⟩
  · simp only [Rp]
    exact ⟨a, ns.map V.int, [], [], rfl, ⟨hS, rfl⟩, rp_ints ns, rfl⟩
  · exact (noLst_of noL hk hc).elim
def tabF (tb : List (List Nat × Fn)) (f : List Nat) : Option Fn := tb.lookup f
def tabG (tb : List (List Nat × T)) (f : List Nat) : Option T := tb.lookup f
def AllD (K : PySem.W.Frag) (mg : Str → Option Value) (U : BF → Bool) : List (List Nat × Fn) → Prop
  | [] => True
  | p :: r => DefAny K mg U p.1 p.2 ∧ AllD K mg U r
theorem lkp_mem {α : Type} : ∀ {tb : List (List Nat × α)} {f : List Nat} {d : α}, tb.lookup f = some d → (f, d) ∈ tb
  | [], _, _, h => by cases h
  | (b, x) :: tb, a, o, h => by
    rw [List.lookup_cons] at h
    cases hb : a == b with
    | true =>
      rw [hb] at h
      have e : a = b := by simpa using hb
      cases h
      subst e
      exact List.mem_cons_self
    | false =>
      rw [hb] at h
      exact List.mem_cons_of_mem _ (lkp_mem h)
theorem AllD.of : ∀ {tb : List (List Nat × Fn)}, AllD K mg U tb → ∀ f d, tabF tb f = some d → DefAny K mg U f d := by
  intro tb h f d e
  have m := lkp_mem e
  induction tb with
  | nil => cases m
  | cons p r ih =>
    rcases List.mem_cons.mp m with z | z
    · subst z; exact h.1
    · have : ∀ {tb : List (List Nat × Fn)}, AllD K mg U tb → (f, d) ∈ tb → DefAny K mg U f d := by
        intro tb
        induction tb with
        | nil => intro _ m; cases m
        | cons p r ih =>
          intro h m
          rcases List.mem_cons.mp m with z | z
          · subst z; exact h.1
          · exact ih h.2 z
      exact this h.2 z
def AllC (K : PySem.W.Frag) (mg : Str → Option Value) : List (List Nat × T) → Prop
  | [] => True
  | p :: r => (∃ u v, mg (S8 p.1) = some u ∧ RelV v u ∧ ∀ F H, Rp K F H .cold p.2 v []) ∧ AllC K mg r
theorem AllC.of {tb : List (List Nat × T)} (h : AllC K mg tb) : ∀ x t, tabG tb x = some t → ∃ u v, mg (S8 x) = some u ∧ RelV v u ∧ ∀ F H, Rp K F H .cold t v [] := by
  intro x t e
  have m := lkp_mem e
  clear e
  induction tb with
  | nil => cases m
  | cons p r ih =>
    rcases List.mem_cons.mp m with z | z
    · subst z; exact h.1
    · exact ih h.2 z
/-- a def of the text, from what the head knows -/
theorem d_mk {h : Heap} (X : K.In h) (Gn : h.Ns mainGlobals mg) {f : List Nat} {d : Fn} {nm : Str} {st : Stmt} {a : Addr} {oc kV dc pm cd ct : Value} {od an : Option Addr} {sl : Array (Option Value)} (e : S8 f = nm)
    (a1 : PySem.W.nsIn K mainGlobals nm = some (some (.ref a))) (l1 : K.lookup a = some ⟨oc, od, .func (PySem.W.fnOf nm nm (defArgs st) (defBody st) (defScope st) .none kV dc pm an cd ct), sl⟩)
    (c1 : PySem.W.codeIn K cd nm = true) (k1 : PySem.W.keepIn K (.ref a) = true) {ps N : List Str}
    (hb : ∀ (kV doc pm : Value) (an : Option Addr) (cdv ct : Value) (us : List Value), us.length = ps.length → bindArgs (PySem.W.fnOf nm nm (defArgs st) (defBody st) (defScope st) .none kV doc pm an cdv ct) ⟨us, []⟩ = pure (ps.zip us))
    (S : FnScope N ps (defScope st)) (h1 : ps.length = d.np) (h2 : N.length = d.ns) (hm : mSs U N (defScope st) d.body (defBody st) = true) (hT : topN N = false := by decide +kernel) (hno : isOwn f = false := by rfl) : DefAny K mg U f d := by
  have FF := fun_mk (st := st) l1 c1 k1
  unfold DefAny
  rw [hno]
  refine ⟨a, _, ps, N, st, by rw [e]; exact PySem.W.mg_of X Gn a1, k1, FF.binds hb, by rw [e]; exact FF, S, h1, h2, hm, hT⟩
/-- the same for one that changes its first argument -/
theorem d_mkO {h : Heap} (X : K.In h) (Gn : h.Ns mainGlobals mg) {f : List Nat} {d : Fn} {nm : Str} {st : Stmt} {a : Addr} {oc kV dc pm cd ct : Value} {od an : Option Addr} {sl : Array (Option Value)} (e : S8 f = nm)
    (a1 : PySem.W.nsIn K mainGlobals nm = some (some (.ref a))) (l1 : K.lookup a = some ⟨oc, od, .func (PySem.W.fnOf nm nm (defArgs st) (defBody st) (defScope st) .none kV dc pm an cd ct), sl⟩)
    (c1 : PySem.W.codeIn K cd nm = true) (k1 : PySem.W.keepIn K (.ref a) = true) {ps N : List Str}
    (hb : ∀ (kV doc pm : Value) (an : Option Addr) (cdv ct : Value) (us : List Value), us.length = ps.length → bindArgs (PySem.W.fnOf nm nm (defArgs st) (defBody st) (defScope st) .none kV doc pm an cdv ct) ⟨us, []⟩ = pure (ps.zip us))
    (SC : FnScope N ps (defScope st)) (h1 : ps.length = d.np) (h2 : N.length = d.ns) {init : List Ev.S} (hbd : d.body = init.map ownM ++ [.ret (.tup [.bl true, .mov 0])]) (ho : ownB init = true) (hm : mSs U N (defScope st) (init ++ [.ret (.bl true)]) (defBody st) = true) (hT : topN N = false := by decide +kernel) : DefAny K mg U (0 :: f) d := by
  have FF := fun_mk (st := st) l1 c1 k1
  show DefOw K mg U f d
  exact ⟨a, _, ps, N, st, init, by rw [e]; exact PySem.W.mg_of X Gn a1, k1, FF.binds hb, by rw [e]; exact FF, SC, h1, h2, hbd, ho, hm, hT⟩
/-- a constant: a number, a text, a tuple of such -/
theorem c_int {h : Heap} (X : K.In h) (Gn : h.Ns mainGlobals mg) {f : List Nat} {nm : Str} {i : Int} {tk : Tok} (e : S8 f = nm) (a1 : PySem.W.nsIn K mainGlobals nm = some (some (.int i tk))) :
    ∃ u v, mg (S8 f) = some u ∧ RelV v u ∧ ∀ F H, Rp K F H .cold (.int i) v [] := ⟨_, .int i, by rw [e]; exact PySem.W.mg_of X Gn a1, ⟨tk, rfl⟩, fun F H => by simp [Rp]⟩
theorem c_str {h : Heap} (X : K.In h) (Gn : h.Ns mainGlobals mg) {f s : List Nat} {nm x : Str} {tk : Tok} (e : S8 f = nm) (a1 : PySem.W.nsIn K mainGlobals nm = some (some (.str x tk))) (ex : x = S8 s) (ha : ascB s = true) :
    ∃ u v, mg (S8 f) = some u ∧ RelV v u ∧ ∀ F H, Rp K F H .cold (.str s) v [] := ⟨_, .str x, by rw [e]; exact PySem.W.mg_of X Gn a1, ⟨tk, rfl⟩, fun F H => by subst ex; simp [Rp, S8, ascOf ha]⟩
/-- the items of a constant tuple -/
def Lit (t : T) (u : Value) : Prop := ∃ v, RelV v u ∧ ∀ K F H, Rp K F H .cold t v []
theorem lit_int {i : Int} {tk : Tok} : Lit (.int i) (.int i tk) := ⟨.int i, ⟨tk, rfl⟩, fun K F H => by simp [Rp]⟩
theorem lit_str {s : List Nat} {x : Str} {tk : Tok} (ex : x = S8 s) (ha : ascB s = true) : Lit (.str s) (.str x tk) := ⟨.str x, ⟨tk, rfl⟩, fun K F H => by subst ex; simp [Rp, S8, ascOf ha]⟩
def Lits : List T → List Value → Prop
  | [], [] => True
  | t :: ts, u :: us => Lit t u ∧ Lits ts us
  | _, _ => False
theorem Lits.rp : ∀ {ts : List T} {us : List Value}, Lits ts us → ∃ vs, Vals vs us ∧ ∀ K F H, RpL K F H .cold ts vs []
  | [], [], _ => ⟨[], .nil, fun _ _ _ => rfl⟩
  | t :: ts, u :: us, h => by
    obtain ⟨⟨v, r, q⟩, h2⟩ := h
    obtain ⟨vs, r2, q2⟩ := Lits.rp h2
    exact ⟨v :: vs, .cons r r2, fun K F H => ⟨[], [], q K F H, q2 K F H, rfl⟩⟩
  | [], _ :: _, h => h.elim
  | _ :: _, [], h => h.elim
theorem c_tup {h : Heap} (X : K.In h) (Gn : h.Ns mainGlobals mg) {f : List Nat} {nm : Str} {ts : List T} {a : Addr} {od : Option Addr} {sl : Array (Option Value)} {its : List Value} {n : Nat} (e : S8 f = nm) (a1 : PySem.W.nsIn K mainGlobals nm = some (some (.ref a)))
    (l1 : K.lookup a = some ⟨.type "tuple", od, .seq its.toArray n, sl⟩) (hz : its.length ≤ sizeLine) (hl : Lits ts its) :
    ∃ u v, mg (S8 f) = some u ∧ RelV v u ∧ ∀ F H, Rp K F H .cold (.tup ts) v [] := by
  obtain ⟨vs, r, q⟩ := hl.rp
  refine ⟨_, .ref a, by rw [e]; exact PySem.W.mg_of X Gn a1, rfl, fun F H => ?_⟩
  simp only [Rp]
  exact ⟨a, vs, rfl, .inr ⟨_, its.toArray, n, l1, rfl, rfl, by simpa using hz, by simpa using r⟩, q K F H⟩
end
section
variable {P : Program} {w : World} {K : PySem.W.Frag} {mg : Str → Option Value} {base : Heap} {k : Nat} {N : List Str} {sc : Scope} {U : BF → Bool} {G : List Nat → Option T}
/-- a call of a def at one place A -/
def CallsAt (A : Around) (P : Program) (w : World) (K : PySem.W.Frag) (mg : Str → Option Value) (base : Heap) (f : Addr) (fd : FuncData) (ps : List Str) (sp : Sp) : Prop :=
  ∀ (out : List PySem.Env) (s : Shared) (H : Hp) (ar : Args) (us : List Value) (vs : List V) (Q : VK) (E : XK), Env0 P w K mg base A out s H → BindsTo s fd ar (ps.zip us) → Vals vs us → sp vs H Q E →
    codeAny (model P w) A (.call (.ref f) ar) (CR CX0 out P w H s Q E) s
theorem calls_at {A : Around} {nm : Str} {st : Stmt} {f : Addr} {fd : FuncData} {ps : List Str} {sp : Sp} (FF : Fun K nm nm st f fd) (S : FnScope N ps (defScope st)) (len : ∀ vs H Q E, sp vs H Q E → vs.length = ps.length) (hr : Room (k + 1) A)
    (body : ∀ (cv : Value) (out : List PySem.Env) (s : Shared) (H : Hp) (vs : List V) (Q : VK) (E : XK), sp vs H Q E →
      ∃ t, PSs (cxOf CX0 P w K mg base N nm (defScope st) f cv A out s H E).nox (defBody st) t ∧ t { nx := fun _ H' => Q .non H', rt := Q } (start N vs) H) :
    CallsAt A P w K mg base f fd ps sp := by
  obtain ⟨_, _, _, _, _, _, cv, _, _, rfl, lk, hc⟩ := FF.ex
  intro out s H ar us vs Q E e0 hb hv hs
  have vl := len vs H Q E hs
  have old := fun b o e => (e0.bs b o e).1
  have KX : K.In s.heap := PySem.W.Frag.In.keeps e0.mod.kin old
  have nolim : s.heap.NoLimit := Heap.NoLimit.keeps e0.mod.nolimit old
  refine codeAny_call_function hr.depth (KX _ _ lk) rfl S.co S.gen rfl (PySem.W.codeRec_of KX hc) (hb _ _ _ _ ?_)
  refine wpAny_newFunctionEnv_cells S.kind ?kinds ?go
  case kinds =>
    intro y hy
    obtain ⟨yn, yv⟩ := y
    have hp := S.par yn (List.of_mem_zip hy).1
    exact hp.imp id fun q => ⟨q, PySem.W.cellsFrom_some _ _ _ (.inl q)⟩
  case go =>
    intro env he s1 inn
    subst he
    refine ⟨Heap.NoLimit.keeps nolim inn.toInCall.keep, codeAny_func ?_⟩
    obtain ⟨t, ht, hq⟩ := body cv out s H vs Q E hs
    have J0 := inv_start (E := E) (CX := CX0) S hr.hd e0 vl hv inn
    refine wpAny_mono (ht.nox.run [] s1 (start N vs) H _ J0 hq) ?_ fun _ _ z => z
    intro fl s' z
    cases fl with
    | ret u =>
      obtain ⟨v, _, H', J, r, q⟩ := z
      exact ⟨v, H', J.os, J.bare, J.base, J.hok, r, q⟩
    | next =>
      obtain ⟨_, H', J, q⟩ := z
      exact ⟨V.non, H', J.os, J.bare, J.base, J.hok, rfl, q⟩
    | brk => obtain ⟨_, _, _, q⟩ := z; exact q.elim
    | cont => obtain ⟨_, _, _, q⟩ := z; exact q.elim
/-- the whole call from behind the top -/
theorem law_at {mb : Str → Option Value} {fa a : Addr} {fd : FuncData} {x : Str} {sp : Sp} {s0 : Shared} {us : List Value} {ns : List Int}
    (kin : K.In s0.heap) (gl : s0.heap.Ns mainGlobals mg) (bl : s0.heap.Ns builtinsNs mb) (bt : ∀ x : Str, x ≠ "__name__" → mb x = bootBuiltins x) (nl : s0.heap.NoLimit) (ng : s0.gens = #[])
    (sc0 : s0.heap.get? a = some { cls := .type "list", data := .seq us.toArray }) (ia : IntsAre us ns) (le : ns.length ≤ sizeLine)
    (F : ∀ base : Heap, CallsAt callerA P w K mg base fa fd [x] sp) (bd : ∀ (s : Shared) (u : Value), BindsTo s fd ⟨[u], []⟩ [(x, u)])
    (pr : ∀ H : Hp, Only H → SqL K H a (ns.map V.int) → sp [.ref a] H (fun v _ => v = .bl true) fun _ _ _ => False) :
    codeAny (model P w) callerA (.call (.ref fa) ⟨[.ref a], []⟩) (fun r s' => r = .ok (.ret (.bool true)) ∧ OldK s0.heap s'.heap ∧ s'.os = s0.os ∧ AllBare s'.gens) s0 := by
  have iv := vals_ints ia
  have il : us.length ≤ sizeLine := by rw [ia.length]; exact le
  -- H: what is tracked: nothing but the script, and that only if it is not one of the module's objects
  have main : ∀ H : Hp, Only H → SqL K H a (ns.map V.int) → HOk P w H s0.heap → (∀ b, H b ≠ none → b = a ∧ K.lookup a = none) → codeAny (model P w) callerA (.call (.ref fa) ⟨[.ref a], []⟩) (fun r s' => r = .ok (.ret (.bool true)) ∧ OldK s0.heap s'.heap ∧ s'.os = s0.os ∧ AllBare s'.gens) s0 := by
    intro H only sq ok hA
    have free : ∀ {b : Addr}, (b = a → K.lookup a = none → False) → H b = none := fun {b} h => by
      cases q : H b with
      | none => rfl
      | some u =>
        have z := hA b (by rw [q]; exact Option.some_ne_none u)
        exact (h z.1 z.2).elim
    have seen : ∀ {b : Addr} {m : Str → Option Value}, s0.heap.Ns b m → (hidT s0.heap H).Ns b m := fun {b m} n => by
      obtain ⟨o, es, ep, g, d, r⟩ := n
      refine ⟨o, es, ep, hidT_get g (free fun e _ => ?_), d, r⟩
      rw [e, sc0] at g
      cases g
      cases d
    have kb : K.In (hidT s0.heap H) := fun b o l => hidT_get (kin b o l) (free fun e n => by rw [e, n] at l; cases l)
    have lim : (hidT s0.heap H).NoLimit := by
      obtain ⟨m, h1, h2⟩ := nl
      exact ⟨m, seen h1, h2⟩
    have e0 : Env0 P w K mg (hidT s0.heap H) callerA [] s0 H := by
      refine ⟨rfl, ⟨kb, seen gl, ⟨mb, seen bl, bt⟩, lim⟩, fun b o e => of_hidT e, Nat.le_of_eq (hidT_size _ _), trivial, fun b hb => ?_, ok, .of_eq ng⟩
      simp [frs] at hb
    have run := F (hidT s0.heap H) [] s0 H ⟨[.ref a], []⟩ [.ref a] [.ref a] _ _ e0 (bd s0 (.ref a)) (.cons rfl .nil) (pr H only sq)
    refine codeAny_mono run fun r s' z => ?_
    match r, z with
    | .error e, z => exact z.elim
    | .ok .next, z => exact z.elim
    | .ok .brk, z => exact z.elim
    | .ok .cont, z => exact z.elim
    | .ok (.ret u), z =>
      obtain ⟨v, H', os, bare, un, ok', rv, hv⟩ := z
      have hv : v = .bl true := hv
      subst hv
      have ru : u = Value.bool true := rv
      subst ru
      refine ⟨rfl, OldK.of_keep fun b o e => ?_, os, bare⟩
      rcases only b with n | ⟨ob, xs, f⟩
      · exact un.keep b o e n (by intro z; cases z) (by intro z; cases z)
      · have f' := un.frzs b ob _ f
        have g1 := (ok b _ f).1
        have g2 := (ok' b _ f').1
        rw [e] at g1
        cases g1
        exact g2
  cases l : K.lookup a with
  | some o =>
    have e := (kin a o l).symm.trans sc0
    cases e
    exact main (fun _ => none) (fun _ => .inl rfl) (.inr ⟨_, us.toArray, _, l, rfl, rfl, rfl, by rw [List.size_toArray]; exact il, by simpa using iv⟩) (fun b u z => by cases z) fun b z => absurd rfl z
  | none =>
    let ob : Obj := { cls := .type "list", data := .seq us.toArray }
    let H1 : Hp := fun b => if b = a then some (.frz ob (.lst (ns.map V.int))) else none
    have at1 : ∀ b, b ≠ a → H1 b = none := fun b n => if_neg n
    have at2 : H1 a = some (.frz ob (.lst (ns.map V.int))) := if_pos rfl
    refine main H1 (fun b => ?_) (.inl (.inr ⟨ob, at2⟩)) (fun b u z => ?_) fun b z => ?_
    · by_cases e : b = a
      · subst e; exact .inr ⟨_, _, at2⟩
      · exact .inl (at1 b e)
    · by_cases e : b = a
      · subst e
        cases at2.symm.trans z
        exact ⟨sc0, by rw [List.length_map]; exact le, us, _, iv, sc0⟩
      · cases (at1 b e).symm.trans z
    · by_cases e : b = a
      · exact ⟨e, l⟩
      · exact absurd (at1 b e) z
theorem walk_at {l : PySem.W.OpenLaw} {n : Nat} {pr : Program} {lo : List Str} {XP : (Str → Option Value) → Heap → Prop} {YP : World → Heap → Prop} {d : DefRec} {KK : Params → PySem.W.Frag} {sp : World → Sp} {x : Str}
    (most : l.most = some n) (fits : n ≤ sizeLine) (nd : d.params.defaults = []) (kin : ∀ (w : World) (h : Heap), YP w h → (KK w.params).In h)
    (F : ∀ (w : World) (mg : Str → Option Value) (fa : Addr) (h : Heap), (KK w.params).In h → h.Ns mainGlobals mg → mg d.name = some (.ref fa) →
      ∃ fd : FuncData, (∀ (s : Shared) (u : Value), BindsTo s fd ⟨[u], []⟩ [(x, u)]) ∧ ∀ base : Heap, CallsAt callerA l.prog w (KK w.params) mg base fa fd [x] (sp w))
    (holds : ∀ (w : World) (H : Hp) (a : Addr) (ns : List Int), ns.length ≤ n → SqL (KK w.params) H a (ns.map V.int) → sp w [.ref a] H (fun v _ => v = .bl true) fun _ _ _ => False) :
    PySem.W.WalkO pr lo XP YP l.row.toRowW d [] (fun f vs => PySem.call f vs) := by
  apply Att.attach_call most nd
  intro w s₀ s₁ mg mb fa o pm cd doc a vs ns G Y ho hd hcd hmg hobj hints hlen hg
  have K1 := kin w s₁.heap Y
  obtain ⟨fd, bd, calls⟩ := F w mg fa s₁.heap K1 G.T.g hmg
  exact law_at K1 G.T.g G.T.b G.T.builtins G.T.nolimit hg hobj hints (Nat.le_trans hlen fits) calls bd fun H _ sq => holds w H a ns hlen sq
/-- one run of a def's body over callees C -/
def topR (G : List Nat → Option T) (C : List Nat → List T → Option (T × Own)) (d : Fn) (ts : List T) : Option (T × Own) :=
  if ts.length = d.np then (exSs G C d.body (startE d.ns ts)).bind fun
    | .nx _ => some (.non, .full)
    | .rt t o => if o.isView then none else some (t, o)
    | _ => none
    else none
theorem top_ok {C : List Nat → List T → Option (T × Own)} {n : Nat} {nm : Str} {d : Fn} {st : Stmt} {a : Addr} {fd : FuncData} {ps : List Str} (M : MOk K mg U G) (CO : COk P w K mg base n C) (hr : Room (n + 1) callerA)
    (FF : Fun K nm nm st a fd) (S : FnScope N ps (defScope st)) (h1 : ps.length = d.np) (h2 : N.length = d.ns) (hm : mSs U N (defScope st) d.body (defBody st) = true) :
    CallsAt callerA P w K mg base a fd ps (spC K ps.length (topR G C d)) := by
  refine calls_at FF S (fun vs H Q E h => h.1) hr fun cdv outer s H vs Q E h => ?_
  obtain ⟨hl, F, ts, t, o, sm, r, hc, q⟩ := h
  unfold topR at hc
  split at hc
  · obtain ⟨fl, e1, hc⟩ := obind hc
    have ok : SOk P w K mg base n N (defScope st) (cxOf CX0 P w K mg base N nm (defScope st) a cdv callerA outer s H E).nox :=
      { prog := rfl, w_ := rfl, K_ := rfl, mg_ := rfl, base_ := rfl, N_ := rfl, nd := S.nd, sc_ := rfl, calm := rfl, room := hr.deeper _, own := PassesOwn.never, kind := S.kind, fn := fun _ => rfl, gd := fun _ => rfl }
    obtain ⟨tt, p1, q1⟩ := okSs M CO d.body (defScope st) (defBody st) hm _ ok
    refine ⟨tt, p1, q1 _ _ _ _ _ _ fl _ (I.start sm r d.ns h2) (fun g m => by cases m) e1 ?_⟩
    match fl, hc with
    | .nx ρ, hc =>
      cases hc
      exact fun σ' H' h => q _ _ h.non.bare
    | .rt t' o', hc =>
      simp only at hc
      split at hc
      · cases hc
      · cases hc
        exact fun ρ' σ' v H' h n => q _ _ h.bare
  · cases hc
/-- the law's own def by its text; all others by all_ok -/
theorem law_top {l : PySem.W.OpenLaw} {h : Heap} {fa : Addr} (X : K.In h) (Gn : h.Ns mainGlobals mg) (hfa : mg "law" = some (.ref fa)) {Gc : List (List Nat × T)} {tb : List (List Nat × Fn)} {n : Nat} {d : Fn} (M : MOk K mg U (tabG Gc)) (D : AllD K mg U tb) (hr : Room (n + 1) callerA)
    {st : Stmt} {a : Addr} {oc kV dc pm cd ct : Value} {od an : Option Addr} {sl : Array (Option Value)}
    (a1 : PySem.W.nsIn K mainGlobals "law" = some (some (.ref a))) (l1 : K.lookup a = some ⟨oc, od, .func (PySem.W.fnOf "law" "law" (defArgs st) (defBody st) (defScope st) .none kV dc pm an cd ct), sl⟩)
    (c1 : PySem.W.codeIn K cd "law" = true) (k1 : PySem.W.keepIn K (.ref a) = true) {x : Str}
    (hb : ∀ (s : Shared) (u : Value), BindsTo s (PySem.W.fnOf "law" "law" (defArgs st) (defBody st) (defScope st) .none kV dc pm an cd ct) ⟨[u], []⟩ [(x, u)])
    (S : FnScope N [x] (defScope st)) (h1 : 1 = d.np) (h2 : N.length = d.ns) (hm : mSs U N (defScope st) d.body (defBody st) = true) :
    ∃ fd : FuncData, (∀ (s : Shared) (u : Value), BindsTo s fd ⟨[u], []⟩ [(x, u)]) ∧ ∀ base : Heap, CallsAt callerA l.prog w K mg base fa fd [x] (spC K 1 (topR (tabG Gc) (runN (tabG Gc) (tabF tb) n) d)) := by
  have e := hfa.symm.trans (PySem.W.mg_of X Gn a1)
  cases e
  exact ⟨_, hb, fun base => top_ok M (all_ok M D.of n) hr (fun_mk (st := st) l1 c1 k1) S h1 h2 hm⟩
end
end Ev
namespace Ev
open L2
open PySem (sizeLine)
section
variable {G : List Nat → Option T} {C : List Nat → List T → Option (T × Own)} {ρ : Env}
@[simp] theorem T.nl_non : T.nl .non = true := rfl
@[simp] theorem T.nl_bl {b} : T.nl (.bl b) = true := rfl
@[simp] theorem T.nl_int {b} : T.nl (.int b) = true := rfl
@[simp] theorem T.nl_str {b} : T.nl (.str b) = true := rfl
@[simp] theorem T.nl_tup {b} : T.nl (.tup b) = nlL b := rfl
@[simp] theorem T.nl_lst {b} : T.nl (.lst b) = false := rfl
@[simp] theorem nlL_nil : nlL [] = true := rfl
@[simp] theorem nlL_cons {x xs} : nlL (x :: xs) = (T.nl x && nlL xs) := rfl
@[simp] theorem val_full {t} : val ⟨t, .full, ρ⟩ = some ⟨t, .full, ρ⟩ := rfl
@[simp] theorem val_shal {t} : val ⟨t, .shal, ρ⟩ = some ⟨t, .shal, ρ⟩ := rfl
@[simp] theorem val_cold {t} : val ⟨t, .cold, ρ⟩ = some ⟨t, .cold, ρ⟩ := rfl
@[simp] theorem vo_f {r} : vo false r = some r := rfl
@[simp] theorem vo_t {r} : vo true r = val r := rfl
@[simp] theorem valD_c {c v} : (valD c v).c = c := rfl
@[simp] theorem valD_v {c v} : (valD c v).v = v := rfl
@[simp] theorem valD_t {c v} : (valD c v).t = tOf v := rfl
@[simp] theorem valD_i {c v} : (valD c v).i = iOf v := rfl
@[simp] theorem tstD_c {c v t} : (tstD c v t).c = c := rfl
@[simp] theorem tstD_v {c v t} : (tstD c v t).v = v := rfl
@[simp] theorem tstD_t {c v t} : (tstD c v t).t = t := rfl
@[simp] theorem tstD_i {c v t} : (tstD c v t).i = iOf v := rfl
@[simp] theorem itD_c {c i} : (itD c i).c = c := rfl
@[simp] theorem itD_i {c i} : (itD c i).i = i := rfl
@[simp] theorem isFull_full : Own.full.isFull = true := rfl
@[simp] theorem isFull_cold : Own.cold.isFull = false := rfl
@[simp] theorem isFull_shal : Own.shal.isFull = false := rfl
@[simp] theorem isView_full : Own.full.isView = false := rfl
@[simp] theorem isView_cold : Own.cold.isView = false := rfl
@[simp] theorem isView_shal : Own.shal.isView = false := rfl
@[simp] theorem minO_ff : minO .full .full = .full := rfl
@[simp] theorem minO_sf {o} : minO .shal o = .shal := rfl
@[simp] theorem minO_cf {o} : minO .cold o = .shal := rfl
@[simp] theorem minO_fs : minO .full .shal = .shal := rfl
@[simp] theorem minO_fc : minO .full .cold = .shal := rfl
@[simp] theorem kidO_f : kidO .full = .full := rfl
@[simp] theorem kidO_s : kidO .shal = .cold := rfl
@[simp] theorem kidO_c : kidO .cold = .cold := rfl
@[simp] theorem seq_nx {ρ k} : (Fl.nx ρ).seq k = k ρ := rfl
@[simp] theorem seq_rt {t o k} : (Fl.rt t o).seq k = some (.rt t o) := rfl
@[simp] theorem seq_bk {ρ k} : (Fl.bk ρ).seq k = some (.bk ρ) := rfl
@[simp] theorem seq_ct {ρ k} : (Fl.ct ρ).seq k = some (.ct ρ) := rfl
@[simp] theorem turn_nx {ρ k} : (Fl.nx ρ).turn k = k ρ := rfl
@[simp] theorem turn_ct {ρ k} : (Fl.ct ρ).turn k = k ρ := rfl
@[simp] theorem turn_bk {ρ k} : (Fl.bk ρ).turn k = some (.nx ρ) := rfl
@[simp] theorem turn_rt {t o k} : (Fl.rt t o).turn k = some (.rt t o) := rfl
theorem le_size {n : Nat} (h : n ≤ 100000) : n ≤ PySem.sizeLine := Nat.le_trans h (by decide)
theorem lt_size {n : Nat} (h : n ≤ 100000) : n < PySem.sizeLine := Nat.lt_of_le_of_lt h (by decide)
@[simp] theorem den_int {i} : den G C (.int i) = valD false fun ρ => some ⟨.int i, .full, ρ⟩ := by first | (simp only [den]; done) | (simp only [den]; rfl)
@[simp] theorem den_bl {b} : den G C (.bl b) = valD false fun ρ => some ⟨.bl b, .full, ρ⟩ := by first | (simp only [den]; done) | (simp only [den]; rfl)
@[simp] theorem den_non : den G C .non = valD false fun ρ => some ⟨.non, .full, ρ⟩ := by first | (simp only [den]; done) | (simp only [den]; rfl)
@[simp] theorem den_str {s} : den G C (.str s) = valD false fun ρ => some ⟨.str s, .full, ρ⟩ := by first | (simp only [den]; done) | (simp only [den]; rfl)
@[simp] theorem den_var {i} : den G C (.var i) = valD false fun ρ => match ρ[i]? with
    | some (some (t, _)) => some (if t.nl then ⟨t, .full, ρ⟩ else ⟨t, .view i, ρ⟩)
    | _ => none := by first | (simp only [den]; done) | (simp only [den]; rfl)
@[simp] theorem den_mov {i} : den G C (.mov i) = valD false fun ρ => match ρ[i]? with
    | some (some (t, o)) => some (if t.nl then ⟨t, .full, ρ⟩ else ⟨t, o, ρ.set i none⟩)
    | _ => none := by first | (simp only [den]; done) | (simp only [den]; rfl)
@[simp] theorem den_glob {x} : den G C (.glob x) = valD false fun ρ => (G x).map fun t => mk t .cold ρ := by first | (simp only [den]; done) | (simp only [den]; rfl)
@[simp] theorem den_bin {op a b} : den G C (.bin op a b) = valD ((den G C a).c || (den G C b).c) fun ρ => ((den G C a).v ρ).bind fun r0 => (vo (den G C b).c r0).bind fun ra => ((den G C b).v ra.ρ).bind fun rb => if repOk op ra.t ra.o then binR op ra.t ra.o rb.t rb.o rb.ρ else none := by first | (simp only [den]; done) | (simp only [den]; rfl)
@[simp] theorem den_neg {a} : den G C (.neg a) = valD (den G C a).c fun ρ => ((den G C a).v ρ).bind fun ra => match ra.t with
    | .int i => some ⟨.int (-i), .full, ra.ρ⟩
    | _ => none := by first | (simp only [den]; done) | (simp only [den]; rfl)
@[simp] theorem den_notv {a} : den G C (.notv a) = tstD (den G C a).c (fun ρ => ((den G C a).v ρ).bind fun r => (truth r.t).map fun b => ⟨.bl (!b), .full, r.ρ⟩) (fun ρ => ((den G C a).t ρ).map fun k => (!k.1, k.2)) := by first | (simp only [den]; done) | (simp only [den]; rfl)
@[simp] theorem den_cmp {op a b} : den G C (.cmp op a b) = valD ((den G C a).c || (den G C b).c) fun ρ => ((den G C a).v ρ).bind fun r0 => (vo (den G C b).c r0).bind fun ra => ((den G C b).v ra.ρ).bind fun rb => (cmpV op ra.t rb.t).map fun k => ⟨.bl k, .full, rb.ρ⟩ := by first | (simp only [den]; done) | (simp only [den]; rfl)
@[simp] theorem den_chain {op op' a b c} : den G C (.chain op op' a b c) = valD ((den G C a).c || ((den G C b).c || (den G C c).c)) fun ρ => ((den G C a).v ρ).bind fun r0 => (vo ((den G C b).c || (den G C c).c) r0).bind fun ra => ((den G C b).v ra.ρ).bind fun r1 => (vo (den G C c).c r1).bind fun rb => (cmpV op ra.t rb.t).bind fun k =>
    if k then ((den G C c).v rb.ρ).bind fun rc => (cmpV op' rb.t rc.t).map fun k' => ⟨.bl k', .full, rc.ρ⟩ else some ⟨.bl false, .full, rb.ρ⟩ := by first | (simp only [den]; done) | (simp only [den]; rfl)
@[simp] theorem den_andv {es} : den G C (.andv es) = tstD (anyC (denL G C es)) (andVals (denL G C es)) (andTs (denL G C es)) := by first | (simp only [den]; done) | (simp only [den]; rfl)
@[simp] theorem den_orv {es} : den G C (.orv es) = tstD (anyC (denL G C es)) (orVals (denL G C es)) (orTs (denL G C es)) := by first | (simp only [den]; done) | (simp only [den]; rfl)
@[simp] theorem den_ife {c a b} : den G C (.ife c a b) = tstD ((den G C c).c || ((den G C a).c || (den G C b).c)) (fun ρ => ((den G C c).t ρ).bind fun k => if k.1 then ((den G C a).v k.2).bind val else ((den G C b).v k.2).bind val) (fun _ => none) := by first | (simp only [den]; done) | (simp only [den]; rfl)
@[simp] theorem den_tup {es} : den G C (.tup es) = valD (anyC (denL G C es)) fun ρ => (evL (denL G C es) ρ).bind fun x => if x.1.length ≤ sizeLine then some (mk (.tup x.1) (kidO x.2.1) x.2.2) else none := by first | (simp only [den]; done) | (simp only [den]; rfl)
@[simp] theorem den_lst {es} : den G C (.lst es) = valD (anyC (denL G C es)) fun ρ => (evL (denL G C es) ρ).bind fun x => if x.1.length ≤ sizeLine then some ⟨.lst x.1, x.2.1, x.2.2⟩ else none := by first | (simp only [den]; done) | (simp only [den]; rfl)
@[simp] theorem den_ix {a i} : den G C (.ix a i) = valD ((den G C a).c || (den G C i).c) fun ρ => ((den G C a).v ρ).bind fun r0 => (vo (den G C i).c r0).bind fun ra => ((den G C i).v ra.ρ).bind fun ri => pickR (fun x => ixV x ri.t) ra.t ra.o ri.ρ := by first | (simp only [den]; done) | (simp only [den]; rfl)
@[simp] theorem den_sl {a lo hi} : den G C (.sl a lo hi) = valD ((den G C a).c || (anyC (denL G C lo) || anyC (denL G C hi))) fun ρ => ((den G C a).v ρ).bind fun r0 => (vo (anyC (denL G C lo) || anyC (denL G C hi)) r0).bind fun ra => (evO (denL G C lo) ra.ρ).bind fun rl => (evO (denL G C hi) rl.2).bind fun rh => shareR1 (slV rl.1 rh.1) ra.t ra.o rh.2 := by first | (simp only [den]; done) | (simp only [den]; rfl)
@[simp] theorem den_rev {a} : den G C (.rev a) = valD (den G C a).c fun ρ => ((den G C a).v ρ).bind fun ra => shareR1 revV ra.t ra.o ra.ρ := by first | (simp only [den]; done) | (simp only [den]; rfl)
@[simp] theorem den_call {f es} : den G C (.call f es) = valD (anyC (denL G C es)) fun ρ => (evV (denL G C es) ρ).bind fun x => (reL x.1 x.2.1 x.2.2).bind fun z => (C f z.1).map fun y => if y.2.isFull then ⟨y.1, .full, x.2.2⟩ else ⟨y.1, y.2, z.2⟩ := by first | (simp only [den]; done) | (simp only [den]; rfl)
@[simp] theorem den_blt {f es} : den G C (.blt f es) = valD (anyC (denL G C es)) fun ρ => (evV (denL G C es) ρ).bind fun x => shareB (bltV f) x.1 x.2.1 x.2.2 := by first | (simp only [den]; done) | (simp only [den]; rfl)
@[simp] theorem den_isi {a c} : den G C (.isi a c) = valD (den G C a).c fun ρ => ((den G C a).v ρ).map fun ra => ⟨.bl (isiV c ra.t), .full, ra.ρ⟩ := by first | (simp only [den]; done) | (simp only [den]; rfl)
@[simp] theorem den_meth {f a es} : den G C (.meth f a es) = valD ((den G C a).c || anyC (denL G C es)) fun ρ => ((den G C a).v ρ).bind fun r0 => (vo (anyC (denL G C es)) r0).bind fun ra => (evV (denL G C es) ra.ρ).bind fun x => (methV f ra.t x.1).bind fun t => if t.nl then some ⟨t, .full, x.2.2⟩ else none := by first | (simp only [den]; done) | (simp only [den]; rfl)
@[simp] theorem den_lc {elt tg it ifs own} : den G C (.lc elt tg it ifs own) = valD true fun ρ => ((den G C it).i ρ).bind fun x =>
    (lcLoop own (fun x ρ => bindT tg x .cold ρ) (fun ρ => evTs (denL G C ifs) ρ) (fun ρ => ((den G C elt).v ρ).bind val) x.1 [] .full x.2).map fun y => ⟨.lst y.1, y.2.1, backE x.2 own y.2.2⟩ := by first | (simp only [den]; done) | (simp only [den]; rfl)
@[simp] theorem den_rng {es} : den G C (.rng es) = itD (anyC (denL G C es)) fun ρ => (evV (denL G C es) ρ).bind fun x => (rngV x.1).map fun xs => (xs, x.2.2) := by first | (simp only [den]; done) | (simp only [den]; rfl)
@[simp] theorem den_zip {a b} : den G C (.zip a b) = itD ((den G C a).c || (den G C b).c) fun ρ => ((den G C a).v ρ).bind fun r0 => (vo (den G C b).c r0).bind fun ra => ((den G C b).v ra.ρ).bind fun rb => (reT ra.t ra.o rb.ρ).bind fun x => (reT rb.t rb.o x.2).bind fun y => match x.1, y.1 with
    | .lst xs, .lst ys => some ((xs.zip ys).map fun p => .tup [p.1, p.2], y.2)
    | .str xs, .str ys => some ((xs.zip ys).map fun p => .tup [.str [p.1], .str [p.2]], y.2)
    | _, _ => none := by first | (simp only [den]; done) | (simp only [den]; rfl)
@[simp] theorem den_enum {a} : den G C (.enum a) = itD (den G C a).c fun ρ => ((den G C a).v ρ).bind fun ra => (reT ra.t ra.o ra.ρ).bind fun x => match x.1 with
    | .lst xs => some (xs.zipIdx.map fun p => .tup [.int (p.2 : Nat), p.1], x.2)
    | _ => none := by first | (simp only [den]; done) | (simp only [den]; rfl)
@[simp] theorem den_revd {a} : den G C (.revd a) = itD (den G C a).c fun ρ => ((den G C a).v ρ).bind fun ra => (reT ra.t ra.o ra.ρ).bind fun x => match x.1 with
    | .lst xs => some (xs.reverse, x.2)
    | _ => none := by first | (simp only [den]; done) | (simp only [den]; rfl)
@[simp] theorem den_pth {i kr} : den G C (.pth i kr) = valD (anyC (denL G C kr)) fun ρ => match ρ[i]? with
    | some (some (t, _)) => (evIs (denL G C kr).reverse ρ).bind fun x => (getP x.1 t).bind fun z => if z.nl then some ⟨z, .full, ρ⟩ else none
    | _ => none := by first | (simp only [den]; done) | (simp only [den]; rfl)
@[simp] theorem denL_nil : denL G C [] = [] := rfl
@[simp] theorem denL_cons {e es} : denL G C (e :: es) = den G C e :: denL G C es := rfl
@[simp] theorem exS_set {i e} : exS G C (.set i e) ρ = (((den G C e).v ρ).bind fun r0 => (val r0).bind fun r => (bindT (.nm i) r.t r.o r.ρ).map .nx) := by first | (simp only [exS]; done) | (simp only [exS]; rfl)
@[simp] theorem exS_setc {i elt tg it ifs own} : exS G C (.setc i elt tg it ifs own) ρ = (((den G C (.lc elt tg it ifs own)).v ρ).bind fun r => (bindT (.nm i) r.t r.o r.ρ).map .nx) := by first | (simp only [exS]; done) | (simp only [exS]; rfl)
@[simp] theorem exS_asg {tg e} : exS G C (.asg tg e) ρ = (((den G C e).v ρ).bind fun r0 => (val r0).bind fun r => (bindT tg r.t r.o r.ρ).map .nx) := by first | (simp only [exS]; done) | (simp only [exS]; rfl)
@[simp] theorem exS_par {i j a b} : exS G C (.par i j a b) ρ = (((den G C a).v ρ).bind fun a0 => (val a0).bind fun ra => ((den G C b).v ra.ρ).bind fun b0 => (val b0).bind fun rb =>
    (bindT (.nm i) ra.t ra.o rb.ρ).bind fun ρ' => (bindT (.nm j) rb.t rb.o ρ').map .nx) := by first | (simp only [exS]; done) | (simp only [exS]; rfl)
@[simp] theorem exS_aug {i op e} : exS G C (.aug i op e) ρ = (match ρ[i]? with
    | some (some (t, _)) => ((den G C e).v ρ).bind fun r => (augV op t r.t).bind fun t' => (bindT (.nm i) t' .full r.ρ).map .nx
    | _ => none) := by first | (simp only [exS]; done) | (simp only [exS]; rfl)
@[simp] theorem exS_app {i ixs e} : exS G C (.app i ixs e) ρ = (match ρ[i]? with
    | some (some (t, _)) => if rootOk ixs t = false then none else (evIs (denL G C ixs) ρ).bind fun ks => ((den G C e).v ks.2).bind fun r0 => (val r0).bind fun r => (modS i ks.1 (appV r.t) r.o r.ρ).map .nx
    | _ => none) := by first | (simp only [exS]; done) | (simp only [exS]; rfl)
@[simp] theorem rootOk_l {xs} : rootOk [] (.lst xs) = true := rfl
@[simp] theorem rootOk_c {e es t} : rootOk (e :: es) t = true := rfl
@[simp] theorem exS_asr {cs i ixs f j jxs} : exS G C (.asr cs i ixs f j jxs) ρ = ((orF (denL G C cs) ρ).bind fun k => if k.1 then some (.rt (.bl false) .full) else
    (evIs (denL G C ixs) k.2).bind fun ks => (evIs (denL G C jxs) ks.2).bind fun ls => (ownR C i ks.1 f j ls.1 ls.2).bind fun r => if r.1 then some (.nx r.2) else some (.rt (.bl false) .full)) := by first | (simp only [exS]; done) | (simp only [exS]; rfl)
@[simp] theorem exS_seti {i ixs k e} : exS G C (.seti i ixs k e) ρ = (((den G C e).v ρ).bind fun r0 => (val r0).bind fun r => match r.ρ[i]? with
    | some (some _) => (evIs (denL G C ixs) r.ρ).bind fun ks => ((den G C k).v ks.2).bind fun rk => match rk.t with
      | .int k => (modS i ks.1 (setV k r.t) r.o rk.ρ).map .nx
      | _ => none
    | _ => none) := by first | (simp only [exS]; done) | (simp only [exS]; rfl)
@[simp] theorem exS_exp {e} : exS G C (.exp e) ρ = (((den G C e).v ρ).map fun r => .nx r.ρ) := by first | (simp only [exS]; done) | (simp only [exS]; rfl)
@[simp] theorem exS_ret {e} : exS G C (.ret e) ρ = (((den G C e).v ρ).bind fun r0 => (val r0).map fun r => .rt r.t r.o) := by first | (simp only [exS]; done) | (simp only [exS]; rfl)
@[simp] theorem exS_retN : exS G C .retN ρ = (some (.rt .non .full)) := by first | (simp only [exS]; done) | (simp only [exS]; rfl)
@[simp] theorem exS_ite {c a b} : exS G C (.ite c a b) ρ = (((den G C c).t ρ).bind fun k => if k.1 then exSs G C a k.2 else exSs G C b k.2) := by first | (simp only [exS]; done) | (simp only [exS]; rfl)
@[simp] theorem exS_whl {c b} : exS G C (.whl c b) ρ = (whlLoop (den G C c).t (exSs G C b) whlMost ρ) := by first | (simp only [exS]; done) | (simp only [exS]; rfl)
@[simp] theorem exS_for_ {tg it b} : exS G C (.for_ tg it b) ρ = (((den G C it).i ρ).bind fun x => forLoop (fun x ρ => bindT tg x .cold ρ) (exSs G C b) x.1 x.2) := by first | (simp only [exS]; done) | (simp only [exS]; rfl)
@[simp] theorem exS_pass : exS G C .pass ρ = (some (.nx ρ)) := by first | (simp only [exS]; done) | (simp only [exS]; rfl)
@[simp] theorem exS_brk : exS G C .brk ρ = (some (.bk ρ)) := by first | (simp only [exS]; done) | (simp only [exS]; rfl)
@[simp] theorem exS_cnt : exS G C .cnt ρ = (some (.ct ρ)) := by first | (simp only [exS]; done) | (simp only [exS]; rfl)
@[simp] theorem exSs_nil : exSs G C [] ρ = some (.nx ρ) := by simp only [exSs]
@[simp] theorem exSs_cons {s ss} : exSs G C (s :: ss) ρ = (exS G C s ρ).bind fun f => f.seq (exSs G C ss) := by simp only [exSs]
end
section
variable {i j k : Int} {x y : List Nat} {xs ys : List T} {t u : T} {o q : Own} {ρ : Env}
@[simp] theorem truth_non : truth .non = some false := rfl
@[simp] theorem truth_bl {b} : truth (.bl b) = some b := rfl
@[simp] theorem truth_int : truth (.int i) = some (i != 0) := rfl
@[simp] theorem truth_str : truth (.str x) = some (!x.isEmpty) := rfl
@[simp] theorem truth_tup : truth (.tup xs) = some (!xs.isEmpty) := rfl
@[simp] theorem truth_lst : truth (.lst xs) = some (!xs.isEmpty) := rfl
@[simp] theorem bin_add : binV .add (.int i) (.int j) = some (.int (i + j)) := rfl
@[simp] theorem bin_sub : binV .sub (.int i) (.int j) = some (.int (i - j)) := rfl
@[simp] theorem bin_mul : binV .mul (.int i) (.int j) = if i.natAbs.log2 + j.natAbs.log2 < 1000000 ∨ i.natAbs < 2 ^ 64 ∨ j.natAbs < 2 ^ 64 then some (.int (i * j)) else none := rfl
@[simp] theorem bin_fdiv : binV .fdiv (.int i) (.int j) = if 0 < j ∧ j.natAbs.log2 < 9000 then some (.int (i / j)) else if j < 0 ∧ j.natAbs < 1073741824 then some (.int (i.fdiv j)) else none := rfl
@[simp] theorem bin_mod : binV .mod (.int i) (.int j) = if 0 < j then some (.int (i % j)) else if j < 0 then some (.int (i.fmod j)) else none := rfl
@[simp] theorem bin_pow : binV .pow (.int i) (.int j) = if 0 ≤ j ∧ j ≤ 1000000 ∧ i.natAbs < 2 ^ 64 then some (.int (i ^ j.toNat)) else none := rfl
@[simp] theorem bin_adds : binV .add (.str x) (.str y) = if x.length + y.length ≤ PySem.sizeLine then some (.str (x ++ y)) else none := rfl
@[simp] theorem bin_addl : binV .add (.lst xs) (.lst ys) = if xs.length + ys.length ≤ PySem.sizeLine then some (.lst (xs ++ ys)) else none := rfl
@[simp] theorem bin_mull : binV .mul (.lst xs) (.int k) = if k.natAbs < 2 ^ 63 ∧ xs.length * k.toNat ≤ PySem.sizeLine then some (.lst (List.replicate k.toNat xs).flatten) else none := rfl
@[simp] theorem bin_muls : binV .mul (.str x) (.int k) = if k.natAbs < 2 ^ 62 ∧ x.length * k.toNat ≤ 8388608 then some (.str (List.replicate k.toNat x).flatten) else none := rfl
@[simp] theorem aug_add : augV .add (.int i) (.int j) = some (.int (i + j)) := rfl
@[simp] theorem aug_sub : augV .sub (.int i) (.int j) = some (.int (i - j)) := rfl
@[simp] theorem aug_adds : augV .add (.str x) (.str y) = if x.length + y.length ≤ PySem.sizeLine then some (.str (x ++ y)) else none := rfl
@[simp] theorem cmp_lt : cmpV .lt (.int i) (.int j) = some (decide (i < j)) := rfl
@[simp] theorem cmp_le : cmpV .le (.int i) (.int j) = some (decide (i ≤ j)) := rfl
@[simp] theorem cmp_gt : cmpV .gt (.int i) (.int j) = some (decide (j < i)) := rfl
@[simp] theorem cmp_ge : cmpV .ge (.int i) (.int j) = some (decide (j ≤ i)) := rfl
@[simp] theorem cmp_slt : cmpV .lt (.str x) (.str y) = some (lexN x y) := rfl
@[simp] theorem cmp_is : cmpV .is t .non = some (isNon t) := by cases t <;> rfl
@[simp] theorem cmp_isn : cmpV .isn t .non = some (!isNon t) := by cases t <;> rfl
@[simp] theorem cmp_mem : cmpV .mem t u = memV t u := by cases t <;> cases u <;> rfl
@[simp] theorem cmp_nmem : cmpV .nmem t u = (memV t u).map (!·) := by cases t <;> cases u <;> rfl
theorem cmp_eq (h1 : T.depLe 64 t = true) (h2 : T.depLe 64 u = true) : cmpV .eq t u = some (eqT t u) := by
  have : cmpV .eq t u = if T.depLe 64 t && T.depLe 64 u then some (eqT t u) else none := by cases t <;> cases u <;> rfl
  rw [this, h1, h2]; rfl
theorem cmp_ne (h1 : T.depLe 64 t = true) (h2 : T.depLe 64 u = true) : cmpV .ne t u = some (!eqT t u) := by
  have : cmpV .ne t u = if T.depLe 64 t && T.depLe 64 u then some (!eqT t u) else none := by cases t <;> cases u <;> rfl
  rw [this, h1, h2]; rfl
@[simp] theorem cmp_eqi : cmpV .eq (.int i) (.int j) = some (i == j) := rfl
@[simp] theorem cmp_nei : cmpV .ne (.int i) (.int j) = some (!(i == j)) := rfl
@[simp] theorem cmp_eqb {b b'} : cmpV .eq (.bl b) (.bl b') = some (b == b') := rfl
@[simp] theorem cmp_eqs : cmpV .eq (.str x) (.str y) = some (x == y) := rfl
@[simp] theorem cmp_nes : cmpV .ne (.str x) (.str y) = some (!(x == y)) := rfl
@[simp] theorem isNon_non : isNon .non = true := rfl
@[simp] theorem isNon_lst : isNon (.lst xs) = false := rfl
@[simp] theorem isNon_tup : isNon (.tup xs) = false := rfl
@[simp] theorem isNon_int : isNon (.int i) = false := rfl
@[simp] theorem isNon_str : isNon (.str x) = false := rfl
@[simp] theorem isNon_bl {b} : isNon (.bl b) = false := rfl
@[simp] theorem len_lst : bltV .len [.lst xs] = some (.int xs.length) := rfl
@[simp] theorem len_tup : bltV .len [.tup xs] = some (.int xs.length) := rfl
@[simp] theorem len_str : bltV .len [.str x] = some (.int x.length) := rfl
@[simp] theorem b_abs : bltV .abs [.int i] = some (.int (if i < 0 then -i else i)) := rfl
@[simp] theorem b_int : bltV .int [.int i] = some (.int i) := rfl
@[simp] theorem b_intb {b} : bltV .int [.bl b] = some (.int (if b then 1 else 0)) := rfl
@[simp] theorem b_list : bltV .list [.lst xs] = some (.lst xs) := rfl
@[simp] theorem b_listt : bltV .list [.tup xs] = some (.lst xs) := rfl
@[simp] theorem b_tuple : bltV .tuple [.lst xs] = some (.tup xs) := rfl
@[simp] theorem b_sum : bltV .sum [.lst xs] = (intsV xs).map fun ns => .int ns.sum := rfl
@[simp] theorem b_any : bltV .any [.lst xs] = (blsV xs).map fun bs => .bl (bs.any id) := rfl
@[simp] theorem b_all : bltV .all [.lst xs] = (blsV xs).map fun bs => .bl (bs.all id) := rfl
@[simp] theorem b_gcd : bltV .gcd [.int i, .int j] = some (.int ((Nat.gcd i.natAbs j.natAbs : Nat) : Int)) := rfl
@[simp] theorem b_max2 : bltV .max2 [.int i, .int j] = some (.int (if j > i then j else i)) := rfl
@[simp] theorem b_min2 : bltV .min2 [.int i, .int j] = some (.int (if j < i then j else i)) := rfl
@[simp] theorem shareB_1 {g} : shareB g [t] [o] ρ = shareR1 (fun x => g [x]) t o ρ := rfl
@[simp] theorem shareB_2 {g t2 o2} : shareB g [t, t2] [o, o2] ρ = ((g [t, t2]).bind fun y => if y.nl then some ⟨y, .full, ρ⟩ else none) := rfl
@[simp] theorem shareR1_ {g : T → Option T} : shareR1 g t o ρ = ((g t).bind fun y => if y.nl then some ⟨y, .full, ρ⟩ else match y with
    | .lst ys => if nlL ys then some ⟨y, .full, ρ⟩ else (reT t o ρ).bind fun x => (g x.1).bind fun z => match z with
      | .lst zs => some ⟨.lst zs, .shal, x.2⟩
      | _ => none
    | _ => (reT t o ρ).bind fun x => (g x.1).bind fun z => match z with
      | .tup zs => some ⟨.tup zs, .cold, x.2⟩
      | _ => none) := rfl
@[simp] theorem shareR2_ {g : T → T → Option T} : shareR2 g t o u q ρ = ((g t u).bind fun y => if y.nl then some ⟨y, .full, ρ⟩ else match y with
    | .lst ys => if nlL ys then some ⟨y, .full, ρ⟩ else (reT t o ρ).bind fun x => (reT u q x.2).bind fun x' => (g x.1 x'.1).bind fun z => match z with
      | .lst zs => some ⟨.lst zs, .shal, x'.2⟩
      | _ => none
    | _ => (reT t o ρ).bind fun x => (reT u q x.2).bind fun x' => (g x.1 x'.1).bind fun z => match z with
      | .tup zs => some ⟨.tup zs, .cold, x'.2⟩
      | _ => none) := rfl
theorem share1_some {g : T → Option T} {y : T} (h : g t = some y) (n : y.nl = true) : shareR1 g t o ρ = some ⟨y, .full, ρ⟩ := by unfold shareR1; simp [h, n]
theorem share1_lst {g : T → Option T} {ys : List T} (h : g t = some (.lst ys)) (n : nlL ys = true) : shareR1 g t o ρ = some ⟨.lst ys, .full, ρ⟩ := by unfold shareR1; simp [h, n, T.nl]
theorem share2_some {g : T → T → Option T} {y : T} (h : g t u = some y) (n : y.nl = true) : shareR2 g t o u q ρ = some ⟨y, .full, ρ⟩ := by unfold shareR2; simp [h, n]
@[simp] theorem repOk_add : repOk .add t o = true := by cases t <;> rfl
@[simp] theorem repOk_sub : repOk .sub t o = true := by cases t <;> rfl
@[simp] theorem repOk_mod : repOk .mod t o = true := by cases t <;> rfl
@[simp] theorem repOk_fdiv : repOk .fdiv t o = true := by cases t <;> rfl
@[simp] theorem repOk_pow : repOk .pow t o = true := by cases t <;> rfl
@[simp] theorem repOk_muli : repOk .mul (.int i) o = true := rfl
@[simp] theorem repOk_mulf : repOk .mul (.lst xs) o = nlL xs := rfl
@[simp] theorem ix_lst : ixV (.lst xs) (.int i) = L2.atI xs i := rfl
@[simp] theorem ix_tup : ixV (.tup xs) (.int i) = L2.atI xs i := rfl
@[simp] theorem ix_strI : ixV (.str x) (.int i) = (L2.atI x i).map fun c => .str [c] := rfl
theorem atI_nn {α : Type} {l : List α} (h : 0 ≤ i) : L2.atI l i = l[i.toNat]? := by
  unfold L2.atI L2.ixN
  rw [if_pos h]
  split
  · rfl
  · rename_i h2
    rw [List.getElem?_eq_none (by omega)]; rfl
@[simp] theorem atI_ofNat {α : Type} {l : List α} {n : Nat} : L2.atI l (n : Int) = l[n]? := by rw [atI_nn (by omega)]; simp
@[simp] theorem atI_0 {α : Type} {l : List α} : L2.atI l 0 = l[0]? := atI_nn (by decide)
@[simp] theorem atI_1 {α : Type} {l : List α} : L2.atI l 1 = l[1]? := atI_nn (by decide)
@[simp] theorem atI_2 {α : Type} {l : List α} : L2.atI l 2 = l[2]? := atI_nn (by decide)
@[simp] theorem pick_nl {g : T → Option T} : pickR g t o ρ = ((g t).bind fun y => if y.nl then some ⟨y, .full, ρ⟩ else (reT t o ρ).bind fun x => (g x.1).map fun z => ⟨z, .cold, x.2⟩) := rfl
@[simp] theorem reT_full : reT t .full ρ = some (t, ρ) := rfl
@[simp] theorem reT_cold : reT t .cold ρ = some (t, ρ) := rfl
@[simp] theorem reT_shal : reT t .shal ρ = some (t, ρ) := rfl
@[simp] theorem reT_view {n : Nat} : reT t (.view n) ρ = (match ρ[n]? with
    | some (some (t', _)) => some (t', ρ.set n (some (t', .cold)))
    | _ => none) := rfl
@[simp] theorem val_view {n : Nat} : val ⟨t, .view n, ρ⟩ = (match ρ[n]? with
    | some (some (t', _)) => some ⟨t', .cold, ρ.set n (some (t', .cold))⟩
    | _ => none) := rfl
@[simp] theorem items_lst : itemsV (.lst xs) = some xs := rfl
@[simp] theorem items_tup : itemsV (.tup xs) = some xs := rfl
@[simp] theorem items_str : itemsV (.str x) = some (x.map fun c => .str [c]) := rfl
theorem rng_1 (h : j.natAbs < 2 ^ 62) : rngV [.int j] = some ((List.range j.toNat).map fun i => .int (i : Nat)) := by
  show (if j.natAbs < 2 ^ 62 then _ else none) = _
  rw [if_pos h]
theorem rng_n {n : Nat} (h : n < 2 ^ 62) : rngV [.int (n : Int)] = some ((List.range n).map fun i => .int (i : Nat)) := by
  rw [rng_1 (by omega)]; simp
theorem rng_2 (h : i.natAbs < 2 ^ 62 ∧ j.natAbs < 2 ^ 62) : rngV [.int i, .int j] = some ((List.range (j - i).toNat).map fun k => .int (i + (k : Nat))) := by
  show (if _ then _ else none) = _
  rw [if_pos h]
@[simp] theorem mk_nl (h : t.nl = true) : mk t o ρ = ⟨t, .full, ρ⟩ := by unfold mk; rw [if_pos h]
@[simp] theorem isi_int : isiV .int (.int i) = true := rfl
@[simp] theorem intsV_nil : intsV [] = some [] := rfl
@[simp] theorem intsV_cons {r : List T} : intsV (.int i :: r) = (intsV r).map (i :: ·) := rfl
@[simp] theorem intsV_map : ∀ {l : List Int}, intsV (l.map T.int) = some l
  | [] => rfl
  | i :: l => by rw [List.map_cons, intsV_cons, intsV_map]; rfl
@[simp] theorem nlL_ints : ∀ {l : List Int}, nlL (l.map T.int) = true
  | [] => rfl
  | i :: l => by rw [List.map_cons, nlL_cons, nlL_ints]; rfl
theorem nlL_map {α : Type} {f : α → T} (h : ∀ a, (f a).nl = true) : ∀ {l : List α}, nlL (l.map f) = true
  | [] => rfl
  | a :: l => by rw [List.map_cons, nlL_cons, nlL_map h, h a]; rfl
@[simp] theorem appV_lst : appV t (.lst xs) = if xs.length < PySem.sizeLine then some (.lst (xs ++ [t])) else none := rfl
@[simp] theorem modAt_nil {f : T → Option T} : modAt f [] t = f t := rfl
@[simp] theorem modO_ff : modO false t .full .full = some .full := rfl
@[simp] theorem modO_s : modO false t .shal o = some .shal := by cases o <;> rfl
@[simp] theorem modO_fc : modO false (.lst xs) .full .cold = some .shal := rfl
@[simp] theorem modO_fs : modO false (.lst xs) .full .shal = some .shal := rfl
@[simp] theorem modS_0 {n : Nat} {f : T → Option T} : modS n [] f o ρ = (match ρ[n]? with
  | some (some (t, o')) => (f t).bind fun t' => (modO false t o' o).map fun o'' => ρ.set n (some (t', o''))
  | _ => none) := rfl
@[simp] theorem setV_lst : setV k t (.lst xs) = (L2.ixN xs.length k).map fun j => .lst (xs.set j t) := rfl
@[simp] theorem evV_nil : evV [] ρ = some ([], [], ρ) := rfl
@[simp] theorem evV_cons {e es} : evV (e :: es) ρ = (e.v ρ).bind fun r0 => (vo (anyC es) r0).bind fun r => (evV es r.ρ).map fun x => (r.t :: x.1, r.o :: x.2.1, x.2.2) := rfl
@[simp] theorem evL_nil : evL [] ρ = some ([], .full, ρ) := rfl
@[simp] theorem evL_cons {e es} : evL (e :: es) ρ = (e.v ρ).bind fun r0 => (val r0).bind fun r => (evL es r.ρ).map fun x => (r.t :: x.1, minO r.o x.2.1, x.2.2) := rfl
@[simp] theorem evIs_nil : evIs [] ρ = some ([], ρ) := rfl
@[simp] theorem anyC_nil : anyC [] = false := rfl
@[simp] theorem anyC_cons {d ds} : anyC (d :: ds) = (d.c || anyC ds) := rfl
@[simp] theorem evTs_nil : evTs [] ρ = some (true, ρ) := rfl
@[simp] theorem evTs_one {c} : evTs [c] ρ = c.t ρ := rfl
@[simp] theorem reL_nil : reL [] [] ρ = some ([], ρ) := rfl
@[simp] theorem reL_cons {ts os} : reL (t :: ts) (o :: os) ρ = (reT t o ρ).bind fun x => (reL ts os x.2).map fun y => (x.1 :: y.1, y.2) := rfl
@[simp] theorem bindT_nm {n : Nat} : bindT (.nm n) t o ρ = if n < ρ.length then some (ρ.set n (some (t, if t.nl then .full else o))) else none := rfl
@[simp] theorem bindT_tp {ts} : bindT (.tp ts) (.tup xs) o ρ = bindTs ts xs (kidO o) ρ := rfl
@[simp] theorem bindTs_nil : bindTs [] [] o ρ = some ρ := rfl
@[simp] theorem bindTs_cons {g gs} : bindTs (g :: gs) (t :: xs) o ρ = (bindT g t o ρ).bind fun ρ' => bindTs gs xs o ρ' := rfl
@[simp] theorem tOf_ {v : Env → Option R} : tOf v ρ = (v ρ).bind fun r => (truth r.t).map fun k => (k, r.ρ) := rfl
@[simp] theorem iOf_ {v : Env → Option R} : iOf v ρ = (v ρ).bind fun ra => (reT ra.t ra.o ra.ρ).bind fun x => (itemsV x.1).map fun xs => (xs, x.2) := rfl
@[simp] theorem andV_1 {d} : andVals [d] ρ = d.v ρ := rfl
@[simp] theorem andT_1 {d} : andTs [d] ρ = d.t ρ := rfl
@[simp] theorem orV_1 {d} : orVals [d] ρ = d.v ρ := rfl
@[simp] theorem orT_1 {d} : orTs [d] ρ = d.t ρ := rfl
@[simp] theorem andV_2 {d d' ds} : andVals (d :: d' :: ds) ρ = (d.v ρ).bind fun r => match r.t with
    | .bl true => andVals (d' :: ds) r.ρ
    | .bl false => some ⟨.bl false, .full, r.ρ⟩
    | _ => none := rfl
@[simp] theorem orV_2 {d d' ds} : orVals (d :: d' :: ds) ρ = (d.v ρ).bind fun r => match r.t with
    | .bl false => orVals (d' :: ds) r.ρ
    | .bl true => some ⟨.bl true, .full, r.ρ⟩
    | _ => none := rfl
@[simp] theorem andT_2 {d d' ds} : andTs (d :: d' :: ds) ρ = (d.t ρ).bind fun k => if k.1 then andTs (d' :: ds) k.2 else some (false, k.2) := rfl
@[simp] theorem orT_2 {d d' ds} : orTs (d :: d' :: ds) ρ = (d.t ρ).bind fun k => if k.1 then some (true, k.2) else orTs (d' :: ds) k.2 := rfl
@[simp] theorem evO_nil : evO [] ρ = some (none, ρ) := rfl
@[simp] theorem evO_one {d} : evO [d] ρ = (d.v ρ).bind fun r => match r.t with
    | .int i => some (some i, r.ρ)
    | _ => none := rfl
@[simp] theorem startE_ {n : Nat} {ts : List T} : startE n ts = (ts.map fun t => some (t, if t.nl then .full else .cold)) ++ List.replicate (n - ts.length) none := rfl
@[simp] theorem forLoop_nil {b f} : forLoop b f [] ρ = some (.nx ρ) := rfl
@[simp] theorem lcLoop_nil {ow b ts e acc} : lcLoop ow b ts e [] acc o ρ = some (acc, o, wipeE ow ρ) := rfl
end
def finF : Fl → Option (T × Own)
  | .nx _ => some (.non, .full)
  | .rt t o => if o.isView then none else some (t, o)
  | _ => none
@[simp] theorem finF_nx {ρ} : finF (.nx ρ) = some (.non, .full) := rfl
@[simp] theorem finF_rt {t o} : finF (.rt t o) = if o.isView then none else some (t, o) := rfl
/-- a call, one step -/
theorem run1 {G : List Nat → Option T} {F : List Nat → Option Fn} {f : List Nat} {d : Fn} (hf : F f = some d) (n : Nat) (ts : List T) (hl : ts.length = d.np) : runN G F (n + 1) f ts = (exSs G (runN G F n) d.body (startK f d.ns ts)).bind finF := by
  unfold runN
  rw [hf, Option.bind_some, if_pos hl]
  rfl
end Ev
namespace Ev
open PySem (sizeLine)
def t_fraction : Fn := ⟨2, 3, [.ite (.cmp .lt (.var 1) (.int 0)) [.par 0 1 (.neg (.mov 0)) (.neg (.mov 1))] [], .set 2 (.blt .gcd [.var 0, .var 1]), .ret (.tup [.bin .fdiv (.mov 0) (.var 2), .bin .fdiv (.mov 1) (.var 2)])]⟩
def t_two (f : List Nat) (op : BO) : Fn := ⟨2, 2, [.ret (.call f [.bin op (.bin .mul (.ix (.var 0) (.int 0)) (.ix (.var 1) (.int 1))) (.bin .mul (.ix (.var 1) (.int 0)) (.ix (.var 0) (.int 1))), .bin .mul (.ix (.var 0) (.int 1)) (.ix (.var 1) (.int 1))])]⟩
def b_common : List S := [.ite (.cmp .eq (.var 1) (.int 0)) [.ret (.mov 0)] [], .par 0 1 (.var 1) (.bin .mod (.blt .int [.mov 0]) (.var 1))]
def t_common : Fn := ⟨2, 3, [.set 0 (.blt .abs [.mov 0]), .set 1 (.blt .abs [.mov 1]), .for_ (.nm 2) (.rng [.int 900]) b_common, .ret (.mov 0)]⟩
def t_lfrac (c : List Nat) : Fn := ⟨2, 3, [.ite (.cmp .lt (.var 1) (.int 0)) [.set 0 (.bin .sub (.int 0) (.mov 0)), .set 1 (.bin .sub (.int 0) (.mov 1))] [], .set 2 (.call c [.var 0, .var 1]), .ret (.tup [.bin .fdiv (.mov 0) (.var 2), .bin .fdiv (.mov 1) (.var 2)])]⟩
def fr (q : Rat) : T := .tup [.int q.num, .int q.den]
@[simp] theorem fr_nl {q} : (fr q).nl = true := rfl
def Sz (s : Nat) (q : Rat) : Prop := q.num.natAbs < 2 ^ s ∧ q.den < 2 ^ s
theorem log2_lt {n s : Nat} (h : n < 2 ^ s) (hs : 0 < s) : n.log2 < s := by
  by_cases h0 : n = 0
  · subst h0; simpa using hs
  · exact (Nat.log2_lt h0).mpr h
theorem gcd_log {a b s : Nat} (hb : 0 < b) (h : b < 2 ^ s) (hs : 0 < s) : (Nat.gcd a b).log2 < s :=
  log2_lt (Nat.lt_of_le_of_lt (Nat.gcd_le_right _ hb) h) hs
theorem Sz.mono {s t : Nat} {q : Rat} (h : Sz s q) (hs : s ≤ t) : Sz t q :=
  ⟨Nat.lt_of_lt_of_le h.1 (Nat.pow_le_pow_right (by decide) hs), Nat.lt_of_lt_of_le h.2 (Nat.pow_le_pow_right (by decide) hs)⟩
theorem natAbs_mul_lt {a b : Int} {s t : Nat} (ha : a.natAbs < 2 ^ s) (hb : b.natAbs < 2 ^ t) : (a * b).natAbs < 2 ^ (s + t) := by
  rw [Int.natAbs_mul, Nat.pow_add]
  exact Nat.mul_lt_mul'' ha hb
theorem natAbs_add_lt {a b : Int} {s : Nat} (ha : a.natAbs < 2 ^ s) (hb : b.natAbs < 2 ^ s) : (a + b).natAbs < 2 ^ (s + 1) := by
  have := Int.natAbs_add_le a b
  rw [Nat.pow_succ]; omega
theorem natAbs_sub_lt {a b : Int} {s : Nat} (ha : a.natAbs < 2 ^ s) (hb : b.natAbs < 2 ^ s) : (a - b).natAbs < 2 ^ (s + 1) := by
  have := Int.natAbs_sub_le a b
  rw [Nat.pow_succ]; omega
theorem mkRat_sz {n : Int} {d s : Nat} (hn : n.natAbs < 2 ^ s) (hd : d < 2 ^ s) (h0 : d ≠ 0) : Sz s (mkRat n d) := by
  constructor
  · rw [Rat.num_mkRat, if_neg h0]
    refine Nat.lt_of_le_of_lt ?_ hn
    rw [Int.natAbs_ediv_of_dvd (Int.ofNat_dvd_left.mpr (Nat.gcd_dvd_right _ _))]
    exact Nat.div_le_self _ _
  · rw [Rat.den_mkRat, if_neg h0]
    exact Nat.lt_of_le_of_lt (Nat.div_le_self _ _) hd
theorem Sz.add {s t : Nat} {p q : Rat} (hp : Sz s p) (hq : Sz t q) : Sz (s + t + 1) (p + q) := by
  rw [Rat.add_def']
  refine mkRat_sz ?_ ?_ (Nat.mul_ne_zero p.den_nz q.den_nz)
  · refine natAbs_add_lt (natAbs_mul_lt hp.1 (by simpa using hq.2)) ?_
    rw [Nat.add_comm s t]
    exact natAbs_mul_lt hq.1 (by simpa using hp.2)
  · have := Nat.mul_lt_mul'' hp.2 hq.2
    rw [← Nat.pow_add] at this
    exact Nat.lt_of_lt_of_le this (Nat.pow_le_pow_right (by decide) (by omega))
theorem Sz.sub {s t : Nat} {p q : Rat} (hp : Sz s p) (hq : Sz t q) : Sz (s + t + 1) (p - q) := by
  rw [Rat.sub_def']
  refine mkRat_sz ?_ ?_ (Nat.mul_ne_zero p.den_nz q.den_nz)
  · refine natAbs_sub_lt (natAbs_mul_lt hp.1 (by simpa using hq.2)) ?_
    rw [Nat.add_comm s t]
    exact natAbs_mul_lt hq.1 (by simpa using hp.2)
  · have := Nat.mul_lt_mul'' hp.2 hq.2
    rw [← Nat.pow_add] at this
    exact Nat.lt_of_lt_of_le this (Nat.pow_le_pow_right (by decide) (by omega))
theorem Sz.mul {s t : Nat} {p q : Rat} (hp : Sz s p) (hq : Sz t q) : Sz (s + t) (p * q) := by
  rw [Rat.mul_def']
  refine mkRat_sz (natAbs_mul_lt hp.1 hq.1) ?_ (Nat.mul_ne_zero p.den_nz q.den_nz)
  have := Nat.mul_lt_mul'' hp.2 hq.2
  rwa [← Nat.pow_add] at this
theorem fr_pos {a : Int} {b : Nat} (hb : b ≠ 0) : (T.tup [.int (a / (Nat.gcd a.natAbs b : Nat)), .int ((b : Int) / (Nat.gcd a.natAbs b : Nat))]) = fr (mkRat a b) := by
  unfold fr
  rw [Rat.num_mkRat, Rat.den_mkRat, if_neg hb, if_neg hb, Nat.gcd_comm b]
  rfl
theorem divInt_neg {a : Int} {b : Int} (hb : b < 0) : Rat.divInt a b = mkRat (-a) b.natAbs := by
  have e : b = -((b.natAbs : Nat) : Int) := by omega
  rw [e, Rat.divInt_neg', Rat.divInt_ofNat]
  congr 1
  omega
theorem divInt_pos {a : Int} {b : Int} (hb : 0 < b) : Rat.divInt a b = mkRat a b.natAbs := by
  have e : b = ((b.natAbs : Nat) : Int) := by omega
  rw [e, Rat.divInt_ofNat]
  congr 1
section
variable {G : List Nat → Option T} {F : List Nat → Option Fn} {f c : List Nat}
theorem mul_ok {a b : Int} {s t : Nat} (ha : a.natAbs < 2 ^ s) (hb : b.natAbs < 2 ^ t) (hs : 0 < s) (ht : 0 < t) (h : s + t ≤ 100000) : a.natAbs.log2 + b.natAbs.log2 < 1000000 := by
  have h1 := log2_lt ha hs
  have h2 := log2_lt hb ht
  omega
theorem two_args {p q : Rat} {s t : Nat} (hp : Sz s p) (hq : Sz t q) (hs : 0 < s) (ht : 0 < t) (h : s + t ≤ 100000) :
    (p.num.natAbs.log2 + (q.den : Int).natAbs.log2 < 1000000) ∧ (q.num.natAbs.log2 + (p.den : Int).natAbs.log2 < 1000000) ∧ ((p.den : Int).natAbs.log2 + (q.den : Int).natAbs.log2 < 1000000) :=
  ⟨mul_ok hp.1 (by simpa using hq.2) hs ht h, mul_ok hq.1 (by simpa using hp.2) ht hs (by omega), mul_ok (by simpa using hp.2) (by simpa using hq.2) hs ht h⟩
theorem den_ok {p q : Rat} {s t : Nat} (hp : Sz s p) (hq : Sz t q) {B : Nat} (h : s + t ≤ B) : ((p.den : Int) * q.den) ≠ 0 ∧ ((p.den : Int) * q.den).natAbs < 2 ^ B := by
  have e : ((p.den : Int) * q.den) = ((p.den * q.den : Nat) : Int) := by simp
  rw [e]
  refine ⟨by have := Nat.mul_ne_zero p.den_nz q.den_nz; omega, ?_⟩
  rw [Int.natAbs_natCast]
  have := Nat.mul_lt_mul'' hp.2 hq.2
  rw [← Nat.pow_add] at this
  exact Nat.lt_of_lt_of_le this (Nat.pow_le_pow_right (by decide) h)
end
end Ev
namespace Ev
open PySem (sizeLine)
section
variable {G : List Nat → Option T} {F : List Nat → Option Fn} {f c : List Nat}
def t_cell : Fn := ⟨2, 2, [.ite (.cmp .lt (.var 1) (.blt .len [.var 0])) [.ret (.blt .int [.ix (.mov 0) (.mov 1)])] [], .ret (.int 0)]⟩
def b_nums1 : List S := [.app 3 [] (.bin .mod (.blt .int [.var 0]) (.var 2)), .set 0 (.bin .fdiv (.blt .int [.mov 0]) (.var 2))]
def b_nums2 : List S := [.set 5 (.bin .mod (.blt .int [.bin .add (.bin .add (.bin .mul (.var 0) (.int 48271)) (.bin .mul (.var 4) (.int 69621))) (.int 7)]) (.int 2147483647)), .set 5 (.bin .mod (.blt .int [.bin .add (.bin .add (.bin .add (.bin .mul (.var 5) (.var 5)) (.bin .mul (.var 5) (.int 40692))) (.bin .mul (.mov 4) (.int 16807))) (.int 11)]) (.int 2147483399)), .app 3 [] (.bin .mod (.blt .int [.bin .fdiv (.mov 5) (.int 32)]) (.var 2))]
def e_big : E := .cmp .ge (.var 0) (.bin .pow (.int 10) (.int 18))
def t_numbersE (e : E) : Fn := ⟨3, 6, [.set 3 (.lst []), .ite e [.for_ (.nm 4) (.rng [.mov 1]) b_nums1, .ret (.mov 3)] [], .for_ (.nm 4) (.rng [.mov 1]) b_nums2, .ret (.mov 3)]⟩
def t_numbers : Fn := t_numbersE e_big
end
end Ev
namespace Ev
open PySem (sizeLine)
def b_same (f : List Nat) : List S := [.ite (.notv (.call f [.ix (.var 0) (.var 2), .ix (.var 1) (.var 2)])) [.ret (.bl false)] []]
def t_same (f : List Nat) : Fn := ⟨2, 3, [.ite (.isi (.var 1) .list) [.ite (.orv [.notv (.isi (.var 0) .list), .cmp .ne (.blt .len [.var 0]) (.blt .len [.var 1])]) [.ret (.bl false)] []] [.ite (.isi (.var 1) .tuple) [.ite (.orv [.notv (.isi (.var 0) .tuple), .cmp .ne (.blt .len [.var 0]) (.blt .len [.var 1])]) [.ret (.bl false)] []] [.ite (.cmp .is (.var 1) (.non)) [.ret (.cmp .is (.mov 0) (.non))] [.ite (.isi (.var 1) .bool) [.ret (.andv [.isi (.var 0) .bool, .cmp .eq (.var 0) (.mov 1)])] [.ite (.isi (.var 1) .int) [.ret (.andv [.isi (.var 0) .int, .notv (.isi (.var 0) .bool), .cmp .eq (.var 0) (.mov 1)])] [.ret (.andv [.isi (.var 0) .str, .cmp .eq (.var 0) (.mov 1)])]]]]], .for_ (.nm 2) (.rng [.blt .len [.var 1]]) (b_same f), .ret (.bl true)]⟩
inductive Dat : Nat → T → Prop
  | non {d} : Dat d .non
  | bl {d b} : Dat d (.bl b)
  | int {d i} : Dat d (.int i)
  | str {d s} : Dat d (.str s)
  | tup {d xs} : xs.length ≤ 100000 → (∀ x ∈ xs, Dat d x) → Dat (d + 1) (.tup xs)
  | lst {d xs} : xs.length ≤ 100000 → (∀ x ∈ xs, Dat d x) → Dat (d + 1) (.lst xs)
end Ev
namespace Ev
open L2
open PySem (sizeLine)
abbrev PE := List (Option T)
mutual
def pbind : Tg → T → PE → Option PE
  | .nm i, t, p => if i < p.length then some (p.set i (some t)) else none
  | .tp ts, .tup xs, p => pbinds ts xs p
  | .tp _, _, _ => none
def pbinds : List Tg → List T → PE → Option PE
  | [], [], p => some p
  | g :: gs, x :: xs, p => (pbind g x p).bind fun p' => pbinds gs xs p'
  | _, _, _ => none
end
/-- a comprehension's items -/
def lcP {α : Type} (f : α → Option (Option T)) : List α → Option (List T)
  | [] => some []
  | x :: xs => (f x).bind fun y => (lcP f xs).map fun ys => match y with
    | none => ys
    | some z => z :: ys
structure PD where
  v : PE → Option T
  t : PE → Option Bool
  i : PE → Option (List T)
def pT (v : PE → Option T) (p : PE) : Option Bool := (v p).bind truth
def pI (v : PE → Option T) (p : PE) : Option (List T) := (v p).bind itemsV
def pV (v : PE → Option T) : PD := ⟨v, pT v, pI v⟩
def pL : List PD → PE → Option (List T)
  | [], _ => some []
  | e :: es, p => (e.v p).bind fun t => (pL es p).map fun ts => t :: ts
def pTs : List PD → PE → Option Bool
  | [], _ => some true
  | [c], p => c.t p
  | _, _ => none
def pAndV : List PD → PE → Option T
  | [], _ => none
  | [d], p => d.v p
  | d :: ds, p => (d.v p).bind fun r => match r with
    | .bl true => pAndV ds p
    | .bl false => some (.bl false)
    | _ => none
def pOrV : List PD → PE → Option T
  | [], _ => none
  | [d], p => d.v p
  | d :: ds, p => (d.v p).bind fun r => match r with
    | .bl false => pOrV ds p
    | .bl true => some (.bl true)
    | _ => none
def pAndT : List PD → PE → Option Bool
  | [], _ => none
  | [d], p => d.t p
  | d :: ds, p => (d.t p).bind fun k => if k then pAndT ds p else some false
def pOrT : List PD → PE → Option Bool
  | [], _ => none
  | [d], p => d.t p
  | d :: ds, p => (d.t p).bind fun k => if k then some true else pOrT ds p
def intT : T → Option Int
  | .int i => some i
  | _ => none
def pO : List PD → PE → Option (Option Int)
  | [], _ => some none
  | [d], p => (d.v p).bind fun r => (intT r).map some
  | _, _ => none
def pIs : List PD → PE → Option (List Int)
  | [], _ => some []
  | e :: es, p => (e.v p).bind fun r => (intT r).bind fun k => (pIs es p).map fun x => k :: x
def pget (p : PE) (i : Nat) : Option T := p[i]?.join
def zipV : T → T → Option (List T)
  | .lst xs, .lst ys => some ((xs.zip ys).map fun p => .tup [p.1, p.2])
  | .str xs, .str ys => some ((xs.zip ys).map fun p => .tup [.str [p.1], .str [p.2]])
  | _, _ => none
def enumV : T → Option (List T)
  | .lst xs => some (xs.zipIdx.map fun p => .tup [.int (p.2 : Nat), p.1])
  | _ => none
def revdV : T → Option (List T)
  | .lst xs => some xs.reverse
  | _ => none
def tupV (ts : List T) : Option T := if ts.length ≤ sizeLine then some (.tup ts) else none
def lstV (ts : List T) : Option T := if ts.length ≤ sizeLine then some (.lst ts) else none
def negV : T → Option T
  | .int i => some (.int (-i))
  | _ => none
def nlV (z : T) : Option T := if z.nl then some z else none
section
variable (G : List Nat → Option T) (C : List Nat → List T → Option T)
mutual
def pden : E → PD
  | .int i => pV fun _ => some (.int i)
  | .bl b => pV fun _ => some (.bl b)
  | .non => pV fun _ => some .non
  | .str s => pV fun _ => some (.str s)
  | .var i => pV fun p => pget p i
  | .mov i => pV fun p => pget p i
  | .glob x => pV fun _ => G x
  | .bin op a b => pV fun p => ((pden a).v p).bind fun x => ((pden b).v p).bind fun y => binV op x y
  | .neg a => pV fun p => ((pden a).v p).bind negV
  | .notv a => ⟨fun p => ((pden a).v p).bind fun r => (truth r).map fun b => .bl (!b), fun p => ((pden a).t p).map fun k => !k, pI fun p => ((pden a).v p).bind fun r => (truth r).map fun b => .bl (!b)⟩
  | .cmp op a b => pV fun p => ((pden a).v p).bind fun x => ((pden b).v p).bind fun y => (cmpV op x y).map .bl
  | .chain op op' a b c => pV fun p => ((pden a).v p).bind fun x => ((pden b).v p).bind fun y => (cmpV op x y).bind fun k => if k then ((pden c).v p).bind fun z => (cmpV op' y z).map .bl else some (.bl false)
  | .andv es => ⟨pAndV (pdenL es), pAndT (pdenL es), pI (pAndV (pdenL es))⟩
  | .orv es => ⟨pOrV (pdenL es), pOrT (pdenL es), pI (pOrV (pdenL es))⟩
  | .ife c a b => ⟨fun p => ((pden c).t p).bind fun k => if k then (pden a).v p else (pden b).v p, fun _ => none, pI fun p => ((pden c).t p).bind fun k => if k then (pden a).v p else (pden b).v p⟩
  | .tup es => pV fun p => (pL (pdenL es) p).bind tupV
  | .lst es => pV fun p => (pL (pdenL es) p).bind lstV
  | .ix a i => pV fun p => ((pden a).v p).bind fun x => ((pden i).v p).bind fun y => ixV x y
  | .sl a lo hi => pV fun p => ((pden a).v p).bind fun x => (pO (pdenL lo) p).bind fun l => (pO (pdenL hi) p).bind fun h => slV l h x
  | .rev a => pV fun p => ((pden a).v p).bind revV
  | .call f es => pV fun p => (pL (pdenL es) p).bind (C f)
  | .blt f es => pV fun p => (pL (pdenL es) p).bind (bltV f)
  | .isi a c => pV fun p => ((pden a).v p).map fun x => .bl (isiV c x)
  | .meth f a es => pV fun p => ((pden a).v p).bind fun x => (pL (pdenL es) p).bind (methV f x)
  | .lc elt tg it ifs _ => pV fun p => ((pden it).i p).bind fun xs => (lcP (fun x => (pbind tg x p).bind fun p1 => (pTs (pdenL ifs) p1).bind fun b => if b then ((pden elt).v p1).map some else some none) xs).bind lstV
  | .lc2 _ _ _ _ _ _ _ _ _ => pV fun _ => none
  | .rng es => ⟨fun _ => none, fun _ => none, fun p => (pL (pdenL es) p).bind rngV⟩
  | .zip a b => ⟨fun _ => none, fun _ => none, fun p => ((pden a).v p).bind fun x => ((pden b).v p).bind fun y => zipV x y⟩
  | .enum a => ⟨fun _ => none, fun _ => none, fun p => ((pden a).v p).bind enumV⟩
  | .revd a => ⟨fun _ => none, fun _ => none, fun p => ((pden a).v p).bind revdV⟩
  | .pth i kr => pV fun p => (pget p i).bind fun t => (pIs (pdenL kr).reverse p).bind fun ks => (getP ks t).bind nlV
def pdenL : List E → List PD
  | [] => []
  | e :: es => pden e :: pdenL es
end
end
inductive PF where
  | nx (p : PE) | rt (t : T) | bk (p : PE) | ct (p : PE)
def PF.turn (f : PF) (k : PE → Option PF) : Option PF := match f with
  | .nx p => k p
  | .ct p => k p
  | .bk p => some (.nx p)
  | .rt t => some (.rt t)
def PF.seq (f : PF) (k : PE → Option PF) : Option PF := match f with
  | .nx p => k p
  | f => some f
def forP (bind : T → PE → Option PE) (body : PE → Option PF) : List T → PE → Option PF
  | [], p => some (.nx p)
  | x :: xs, p => (bind x p).bind fun p1 => (body p1).bind fun f => f.turn (forP bind body xs)
def whlP (test : PE → Option Bool) (body : PE → Option PF) : Nat → PE → Option PF
  | 0, _ => none
  | n + 1, p => (test p).bind fun k => if k then (body p).bind fun f => f.turn (whlP test body n) else some (.nx p)
def pmod (i : Nat) (ks : List Int) (f : T → Option T) (p : PE) : Option PE := (pget p i).bind fun t => (modAt f ks t).map fun t' => p.set i (some t')
def pOrF : List PD → PE → Option Bool
  | [], _ => some false
  | d :: ds, p => (d.t p).bind fun k => if k then some true else pOrF ds p
/-- a call that holds and changes what it is handed -/
def pOwn (C : List Nat → List T → Option T) (i : Nat) (ks : List Int) (f : List Nat) (j : Nat) (ls : List Int) (p : PE) : Option PE := (pget p i).bind fun t => (pget p j).bind fun u => if i = j then none else (getP ks t).bind fun t0 => (getP ls u).bind fun u0 => (C (0 :: f) [t0, u0]).bind fun y => match y with
  | .tup [.bl true, t1] => (modAt (fun _ => some t1) ks t).map fun t2 => p.set i (some t2)
  | _ => none
section
variable (G : List Nat → Option T) (C : List Nat → List T → Option T)
mutual
def pS : S → PE → Option PF
  | .set i e, p => ((pden G C e).v p).bind fun t => (pbind (.nm i) t p).map .nx
  | .setc i elt tg it ifs own, p => ((pden G C (.lc elt tg it ifs own)).v p).bind fun t => (pbind (.nm i) t p).map .nx
  | .asg tg e, p => ((pden G C e).v p).bind fun t => (pbind tg t p).map .nx
  | .par i j a b, p => ((pden G C a).v p).bind fun x => ((pden G C b).v p).bind fun y => (pbind (.nm i) x p).bind fun p' => (pbind (.nm j) y p').map .nx
  | .aug i op e, p => (pget p i).bind fun x => ((pden G C e).v p).bind fun y => (augV op x y).bind fun z => (pbind (.nm i) z p).map .nx
  | .app i ixs e, p => (pget p i).bind fun t => if rootOk ixs t = false then none else (pIs (pdenL G C ixs) p).bind fun ks => ((pden G C e).v p).bind fun y => (pmod i ks (appV y) p).map .nx
  | .seti i ixs k e, p => ((pden G C e).v p).bind fun y => (pget p i).bind fun _ => (pIs (pdenL G C ixs) p).bind fun ks => ((pden G C k).v p).bind fun r => (intT r).bind fun k => (pmod i ks (setV k y) p).map .nx
  | .asr cs i ixs f j jxs, p => (pOrF (pdenL G C cs) p).bind fun k => if k then some (.rt (.bl false)) else (pIs (pdenL G C ixs) p).bind fun ks => (pIs (pdenL G C jxs) p).bind fun ls => (pOwn C i ks f j ls p).map .nx
  | .exp e, p => ((pden G C e).v p).map fun _ => .nx p
  | .ret e, p => ((pden G C e).v p).map .rt
  | .retN, _ => some (.rt .non)
  | .ite c a b, p => ((pden G C c).t p).bind fun k => if k then pSs a p else pSs b p
  | .whl c b, p => whlP (pden G C c).t (pSs b) whlMost p
  | .for_ tg it b, p => ((pden G C it).i p).bind fun xs => forP (fun x p => pbind tg x p) (pSs b) xs p
  | .pass, p => some (.nx p)
  | .brk, p => some (.bk p)
  | .cnt, p => some (.ct p)
def pSs : List S → PE → Option PF
  | [], p => some (.nx p)
  | s :: ss, p => (pS s p).bind fun f => f.seq (pSs ss)
end
end
def startP (n : Nat) (ts : List T) : PE := ts.map some ++ List.replicate (n - ts.length) none
def finP : PF → Option T
  | .nx _ => some .non
  | .rt t => some t
  | _ => none
def runP (G : List Nat → Option T) (F : List Nat → Option Fn) : Nat → List Nat → List T → Option T
  | 0, _, _ => none
  | n + 1, f, ts => (F f).bind fun d => if ts.length = d.np then (pSs G (runP G F n) d.body (startP d.ns ts)).bind finP else none
inductive Ty where
  | bot | nl | top | lst (a : Ty) | tup (as : List Ty)
mutual
def Ty.isNl : Ty → Bool
  | .bot => true
  | .nl => true
  | .top => false
  | .lst _ => false
  | .tup as => isNlL as
def isNlL : List Ty → Bool
  | [] => true
  | a :: as => Ty.isNl a && isNlL as
end
mutual
def hasTy : Ty → T → Prop
  | .bot, _ => False
  | .nl, t => t.nl = true
  | .top, _ => True
  | .lst a, t => ∃ xs, t = .lst xs ∧ ∀ x ∈ xs, hasTy a x
  | .tup as, t => ∃ xs, t = .tup xs ∧ hasTyL as xs
def hasTyL : List Ty → List T → Prop
  | [], ts => ts = []
  | a :: as, ts => ∃ x xs, ts = x :: xs ∧ hasTy a x ∧ hasTyL as xs
end
mutual
def Ty.le : Ty → Ty → Bool
  | a, .top => true
  | a, .nl => a.isNl
  | a, .lst b => match a with
    | .lst a => Ty.le a b
    | .bot => true
    | _ => false
  | a, .tup bs => match a with
    | .tup as => leL as bs
    | .bot => true
    | _ => false
  | a, .bot => match a with
    | .bot => true
    | _ => false
def leL : List Ty → List Ty → Bool
  | as, [] => match as with
    | [] => true
    | _ => false
  | as, b :: bs => match as with
    | a :: as => Ty.le a b && leL as bs
    | _ => false
end
mutual
def Ty.join : Ty → Ty → Ty
  | a, .bot => a
  | a, .nl => if a.isNl then .nl else .top
  | a, .top => .top
  | a, .lst b => match a with
    | .lst a => .lst (Ty.join a b)
    | .bot => .lst b
    | _ => .top
  | a, .tup bs => match a with
    | .tup as => if as.length = bs.length then .tup (joinL as bs) else if isNlL as && isNlL bs then .nl else .top
    | .bot => .tup bs
    | .nl => if isNlL bs then .nl else .top
    | _ => .top
def joinL : List Ty → List Ty → List Ty
  | _, [] => []
  | as, b :: bs => match as with
    | a :: as => Ty.join a b :: joinL as bs
    | _ => []
end
/-- a type above both (looked at) -/
def jn (a b : Ty) : Ty := if Ty.le a (Ty.join a b) && Ty.le b (Ty.join a b) then Ty.join a b else .top
def jnL : List Ty → Ty
  | [] => .bot
  | a :: as => jn a (jnL as)
mutual
theorem isNl_ok : ∀ {a : Ty} {t : T}, a.isNl = true → hasTy a t → t.nl = true
  | .bot, _, _, h => by simp [hasTy] at h
  | .nl, _, _, h => by simpa [hasTy] using h
  | .top, _, h, _ => by simp [Ty.isNl] at h
  | .lst _, _, h, _ => by simp [Ty.isNl] at h
  | .tup as, _, h, r => by
    simp only [hasTy] at r
    obtain ⟨xs, rfl, r⟩ := r
    simp only [Ty.isNl] at h
    simpa using isNlL_ok h r
theorem isNlL_ok : ∀ {as : List Ty} {ts : List T}, isNlL as = true → hasTyL as ts → nlL ts = true
  | [], _, _, h => by simp only [hasTyL] at h; subst h; rfl
  | a :: as, _, h, r => by
    simp only [hasTyL] at r
    obtain ⟨x, xs, rfl, r1, r2⟩ := r
    simp only [isNlL, Bool.and_eq_true] at h
    simp [isNl_ok h.1 r1, isNlL_ok h.2 r2]
end
mutual
theorem le_ok : ∀ {b a : Ty} {t : T}, Ty.le a b = true → hasTy a t → hasTy b t
  | .top, _, _, _, _ => by simp [hasTy]
  | .nl, a, t, h, r => by
    simp only [Ty.le] at h
    simpa [hasTy] using isNl_ok h r
  | .lst b, a, t, h, r => by
    cases a with
    | lst a =>
      simp only [Ty.le] at h
      simp only [hasTy] at r ⊢
      obtain ⟨xs, e, r⟩ := r
      exact ⟨xs, e, fun x m => le_ok h (r x m)⟩
    | bot => simp [hasTy] at r
    | _ => simp [Ty.le] at h
  | .tup bs, a, t, h, r => by
    cases a with
    | tup as =>
      simp only [Ty.le] at h
      simp only [hasTy] at r ⊢
      obtain ⟨xs, e, r⟩ := r
      exact ⟨xs, e, leL_ok h r⟩
    | bot => simp [hasTy] at r
    | _ => simp [Ty.le] at h
  | .bot, a, t, h, r => by
    cases a with
    | bot => exact r
    | _ => simp [Ty.le] at h
theorem leL_ok : ∀ {bs as : List Ty} {ts : List T}, leL as bs = true → hasTyL as ts → hasTyL bs ts
  | [], as, ts, h, r => by
    cases as with
    | nil => exact r
    | cons a as => simp [leL] at h
  | b :: bs, as, ts, h, r => by
    cases as with
    | nil => simp [leL] at h
    | cons a as =>
      simp only [leL, Bool.and_eq_true] at h
      simp only [hasTyL] at r ⊢
      obtain ⟨x, xs, e, r1, r2⟩ := r
      exact ⟨x, xs, e, le_ok h.1 r1, leL_ok h.2 r2⟩
end
theorem jn_l {a b : Ty} {t : T} (h : hasTy a t) : hasTy (jn a b) t := by
  unfold jn
  split
  · rename_i e
    exact le_ok (by simp at e; exact e.1) h
  · simp [hasTy]
theorem jn_r {a b : Ty} {t : T} (h : hasTy b t) : hasTy (jn a b) t := by
  unfold jn
  split
  · rename_i e
    exact le_ok (by simp at e; exact e.2) h
  · simp [hasTy]
theorem jnL_ok : ∀ {as : List Ty} {ts : List T}, hasTyL as ts → ∀ x ∈ ts, hasTy (jnL as) x
  | [], _, h, x, m => by simp only [hasTyL] at h; subst h; cases m
  | a :: as, _, h, x, m => by
    simp only [hasTyL] at h
    obtain ⟨y, ys, rfl, r1, r2⟩ := h
    rcases List.mem_cons.mp m with rfl | m
    · exact jn_l r1
    · exact jn_r (jnL_ok r2 x m)
theorem hasTyL_len : ∀ {as : List Ty} {ts : List T}, hasTyL as ts → as.length = ts.length
  | [], _, h => by simp only [hasTyL] at h; subst h; rfl
  | a :: as, _, h => by
    simp only [hasTyL] at h
    obtain ⟨y, ys, rfl, _, r2⟩ := h
    simp [hasTyL_len r2]
theorem hasTyL_app : ∀ {as bs : List Ty} {ts us : List T}, hasTyL as ts → hasTyL bs us → hasTyL (as ++ bs) (ts ++ us)
  | [], _, _, _, h, r => by simp only [hasTyL] at h; subst h; exact r
  | a :: as, _, _, _, h, r => by
    simp only [hasTyL] at h
    obtain ⟨y, ys, rfl, r1, r2⟩ := h
    simp only [List.cons_append, hasTyL]
    exact ⟨y, _, rfl, r1, hasTyL_app r2 r⟩
theorem hasTyL_get : ∀ {as : List Ty} {ts : List T} {n : Nat} {x : T}, hasTyL as ts → ts[n]? = some x → ∃ a, as[n]? = some a ∧ hasTy a x
  | [], _, _, _, h, e => by simp only [hasTyL] at h; subst h; simp at e
  | a :: as, _, n, x, h, e => by
    simp only [hasTyL] at h
    obtain ⟨y, ys, rfl, r1, r2⟩ := h
    cases n with
    | zero => simp at e; subst e; exact ⟨a, rfl, r1⟩
    | succ n => exact hasTyL_get (n := n) r2 (by simpa using e)
theorem hasTy_nl {t : T} : hasTy .nl t ↔ t.nl = true := by simp [hasTy]
theorem hasTy_top {t : T} : hasTy .top t := by simp [hasTy]
theorem hasTy_lst {a : Ty} {t : T} : hasTy (.lst a) t ↔ ∃ xs, t = .lst xs ∧ ∀ x ∈ xs, hasTy a x := by simp [hasTy]
theorem hasTy_tup {as : List Ty} {t : T} : hasTy (.tup as) t ↔ ∃ xs, t = .tup xs ∧ hasTyL as xs := by simp [hasTy]
theorem nlL_mem : ∀ {xs : List T}, nlL xs = true ↔ ∀ x ∈ xs, x.nl = true
  | [] => by simp
  | x :: xs => by simp [nlL_mem (xs := xs)]
end Ev
namespace Ev
open L2
open PySem (sizeLine)
inductive AO | full | shal | cold
def AO.isFull : AO → Bool
  | .full => true
  | _ => false
def AO.le : AO → AO → Bool
  | .full, _ => true
  | .shal, .full => false
  | .shal, _ => true
  | .cold, .cold => true
  | .cold, _ => false
def okO : AO → Own → Prop
  | .full, o => o = .full
  | .shal, o => o = .full ∨ o = .shal
  | .cold, o => o = .full ∨ o = .shal ∨ o = .cold
theorem okO_le {a b : AO} {o : Own} (h : a.le b = true) (r : okO a o) : okO b o := by
  cases a <;> cases b <;> simp [AO.le] at h <;> simp only [okO] at r ⊢ <;> first | exact r | (subst r; simp) | (rcases r with r | r <;> subst r <;> simp)
theorem okO_cold {a : AO} {o : Own} (r : okO a o) : okO .cold o := okO_le (by cases a <;> rfl) r
theorem okO_full {a : AO} : okO a .full := by cases a <;> simp [okO]
inductive VO | own (a : AO) | view (i : Nat)
abbrev ASl := Option (Ty × AO)
abbrev AE := List ASl
structure AR where
  ty : Ty
  o : VO
  s : AE
structure Rel (s : AE) (p : PE) (ρ : Env) : Prop where
  lp : p.length = ρ.length
  ls : s.length = ρ.length
  at_ : ∀ (i : Nat) (ty : Ty) (a : AO) (t : T), s[i]? = some (some (ty, a)) → p[i]? = some (some t) → hasTy ty t ∧ ∃ o, ρ[i]? = some (some (t, o)) ∧ okO a o
def VR (v : VO) (t : T) (o : Own) (p : PE) : Prop := match v with
  | .own a => okO a o
  | .view i => p[i]? = some (some t) ∧ (o = .full ∨ o = .view i)
def leSl : ASl → ASl → Bool
  | _, none => true
  | none, some _ => false
  | some (t, o), some (t', o') => Ty.le t t' && AO.le o o'
def leA : AE → AE → Bool
  | [], [] => true
  | x :: xs, y :: ys => leSl x y && leA xs ys
  | _, _ => false
theorem leA_len : ∀ {s s' : AE}, leA s s' = true → s.length = s'.length
  | [], [], _ => rfl
  | x :: xs, y :: ys, h => by simp [leA] at h; simp [leA_len h.2]
  | [], _ :: _, h => by simp [leA] at h
  | _ :: _, [], h => by simp [leA] at h
theorem leA_at : ∀ {s s' : AE} {i : Nat} {ty : Ty} {a : AO}, leA s s' = true → s'[i]? = some (some (ty, a)) → ∃ ty0 a0, s[i]? = some (some (ty0, a0)) ∧ Ty.le ty0 ty = true ∧ AO.le a0 a = true
  | [], [], _, _, _, _, e => by simp at e
  | x :: xs, y :: ys, 0, ty, a, h, e => by
    simp at e
    subst e
    simp [leA] at h
    cases x with
    | none => simp [leSl] at h
    | some x => obtain ⟨x1, x2⟩ := x; simp [leSl] at h; exact ⟨x1, x2, rfl, h.1.1, h.1.2⟩
  | x :: xs, y :: ys, i + 1, ty, a, h, e => by
    simp [leA] at h
    simpa using leA_at (i := i) h.2 (by simpa using e)
  | [], _ :: _, _, _, _, h, _ => by simp [leA] at h
  | _ :: _, [], _, _, _, h, _ => by simp [leA] at h
theorem Rel.le {s s' : AE} {p : PE} {ρ : Env} (h : Rel s p ρ) (l : leA s s' = true) : Rel s' p ρ := by
  refine ⟨h.lp, by rw [← leA_len l, h.ls], fun i ty a t e e2 => ?_⟩
  obtain ⟨ty0, a0, e0, l1, l2⟩ := leA_at l e
  obtain ⟨r1, o, r2, r3⟩ := h.at_ i ty0 a0 t e0 e2
  exact ⟨le_ok l1 r1, o, r2, okO_le l2 r3⟩
def joinSl : ASl → ASl → ASl
  | some (t, o), some (t', o') => some (jn t t', if AO.le o o' then o' else o)
  | _, _ => none
def jnA (s s' : AE) : Option AE := if leA s (List.zipWith joinSl s s') && leA s' (List.zipWith joinSl s s') then some (List.zipWith joinSl s s') else none
theorem jnA_l {s s' j : AE} {p : PE} {ρ : Env} (e : jnA s s' = some j) (h : Rel s p ρ) : Rel j p ρ := by
  unfold jnA at e
  split at e
  · rename_i c; cases e; simp at c; exact h.le c.1
  · cases e
theorem jnA_r {s s' j : AE} {p : PE} {ρ : Env} (e : jnA s s' = some j) (h : Rel s' p ρ) : Rel j p ρ := by
  unfold jnA at e
  split at e
  · rename_i c; cases e; simp at c; exact h.le c.2
  · cases e
theorem getset {α : Type} {l : List α} {i j : Nat} {x y : α} (h : (l.set i x)[j]? = some y) : (j = i ∧ y = x ∧ i < l.length) ∨ (j ≠ i ∧ l[j]? = some y) := by
  rw [List.getElem?_set] at h
  split at h
  · rename_i e
    split at h
    · cases h; exact .inl ⟨e.symm, rfl, by assumption⟩
    · cases h
  · rename_i e; exact .inr ⟨fun q => e q.symm, h⟩
/-- a slot that is seen by more than one -/
def coolA (i : Nat) (s : AE) : Option AE := match s[i]? with
  | some (some (ty, _)) => some (s.set i (some (ty, .cold)))
  | _ => none
theorem Rel.cool {s s' : AE} {p : PE} {ρ : Env} {i : Nat} (h : Rel s p ρ) (e : coolA i s = some s') : Rel s' p ρ := by
  unfold coolA at e
  split at e
  · rename_i ty a e1
    cases e
    refine ⟨h.lp, by simp [h.ls], fun j ty' a' t e2 e3 => ?_⟩
    rcases getset e2 with ⟨rfl, q, _⟩ | ⟨_, q⟩
    · cases q
      obtain ⟨r1, o, r2, r3⟩ := h.at_ _ _ _ _ e1 e3
      exact ⟨r1, o, r2, okO_cold r3⟩
    · exact h.at_ _ _ _ _ q e3
  · cases e
theorem Rel.coolE {s s' : AE} {p : PE} {ρ : Env} {i : Nat} {t : T} (h : Rel s p ρ) (e : coolA i s = some s') (hp : p[i]? = some (some t)) : ∃ o, ρ[i]? = some (some (t, o)) ∧ Rel s' p (ρ.set i (some (t, .cold))) := by
  unfold coolA at e
  split at e
  · rename_i ty a e1
    cases e
    obtain ⟨r1, o, r2, r3⟩ := h.at_ _ _ _ _ e1 hp
    refine ⟨o, r2, by simp [h.lp], by simp [h.ls], fun j ty' a' t' e2 e3 => ?_⟩
    have hi : i < ρ.length := (List.getElem?_eq_some_iff.mp r2).1
    rcases getset e2 with ⟨rfl, q, _⟩ | ⟨n, q⟩
    · cases q
      rw [hp] at e3
      cases e3
      exact ⟨r1, .cold, by simp [hi], by simp [okO]⟩
    · rw [List.getElem?_set_ne (fun q => n q.symm)]
      exact h.at_ _ _ _ _ q e3
  · cases e
def reA (v : VO) (s : AE) : Option AE := match v with
  | .own _ => some s
  | .view i => coolA i s
theorem reA_weak {v : VO} {s s' : AE} {p : PE} {ρ : Env} (h : Rel s p ρ) (e : reA v s = some s') : Rel s' p ρ := by
  cases v with
  | own a => cases e; exact h
  | view i => exact h.cool e
theorem reA_ok {v : VO} {s s' : AE} {p : PE} {ρ : Env} {t : T} {o : Own} (h : Rel s p ρ) (r : VR v t o p) (e : reA v s = some s') : ∃ ρ', reT t o ρ = some (t, ρ') ∧ Rel s' p ρ' := by
  cases v with
  | own a =>
    cases e
    cases a <;> simp only [VR, okO] at r
    · subst r; exact ⟨ρ, rfl, h⟩
    · rcases r with rfl | rfl <;> exact ⟨ρ, rfl, h⟩
    · rcases r with rfl | rfl | rfl <;> exact ⟨ρ, rfl, h⟩
  | view i =>
    obtain ⟨hp, rfl | rfl⟩ := r
    · exact ⟨ρ, rfl, h.cool e⟩
    · obtain ⟨o, e1, h'⟩ := h.coolE e hp
      exact ⟨_, by simp [e1], h'⟩
def valA (r : AR) : Option (Ty × AO × AE) := match r.o with
  | .own a => some (r.ty, a, r.s)
  | .view i => (coolA i r.s).map fun s => (r.ty, .cold, s)
theorem valA_ok {r : AR} {x : Ty × AO × AE} {p : PE} {ρ : Env} {t : T} {o : Own} (h : Rel r.s p ρ) (k : VR r.o t o p) (e : valA r = some x) : ∃ o' ρ', val ⟨t, o, ρ⟩ = some ⟨t, o', ρ'⟩ ∧ Rel x.2.2 p ρ' ∧ okO x.2.1 o' ∧ x.1 = r.ty := by
  obtain ⟨ty, v, s⟩ := r
  cases v with
  | own a =>
    cases e
    simp only [VR] at k
    refine ⟨o, ρ, ?_, h, k, rfl⟩
    cases a <;> simp only [okO] at k
    · subst k; rfl
    · rcases k with rfl | rfl <;> rfl
    · rcases k with rfl | rfl | rfl <;> rfl
  | view i =>
    simp only [valA] at e
    obtain ⟨s', e1, rfl⟩ := Option.map_eq_some_iff.mp e
    obtain ⟨hp, rfl | rfl⟩ := k
    · exact ⟨.full, ρ, rfl, h.cool e1, okO_full, rfl⟩
    · obtain ⟨o, e2, h'⟩ := Rel.coolE h e1 hp
      exact ⟨.cold, _, by simp [e2], h', by simp [okO], rfl⟩
structure AD where
  c : Bool
  v : AE → Option AR
  t : AE → Option AE
  i : AE → Option (Ty × AE)
def itTy : Ty → Ty
  | .lst a => a
  | .tup as => jnL as
  | a => if a.isNl then .nl else .top
theorem itTy_ok {ty : Ty} {t : T} {xs : List T} (h : hasTy ty t) (e : itemsV t = some xs) : ∀ x ∈ xs, hasTy (itTy ty) x := by
  cases ty with
  | bot => simp [hasTy] at h
  | nl =>
    rw [hasTy_nl] at h
    show ∀ x ∈ xs, hasTy .nl x
    cases t <;> simp [itemsV] at e h
    · subst e; intro x m; rw [List.mem_map] at m; obtain ⟨c, _, rfl⟩ := m; simp [hasTy]
    · subst e; intro x m; rw [hasTy_nl]; exact nlL_mem.mp h x m
  | top => intro x _; exact hasTy_top
  | lst a =>
    rw [hasTy_lst] at h
    obtain ⟨ys, rfl, h⟩ := h
    cases e
    exact h
  | tup as =>
    rw [hasTy_tup] at h
    obtain ⟨ys, rfl, h⟩ := h
    cases e
    exact jnL_ok h
def aT (v : AE → Option AR) (s : AE) : Option AE := (v s).map (·.s)
def aI (v : AE → Option AR) (s : AE) : Option (Ty × AE) := (v s).bind fun r => (reA r.o r.s).map fun s' => (itTy r.ty, s')
def aV (c : Bool) (v : AE → Option AR) : AD := ⟨c, v, aT v, aI v⟩
def VOK (d : Env → Option R) (q : PE → Option T) (a : AE → Option AR) : Prop := ∀ s p ρ r t, Rel s p ρ → a s = some r → q p = some t → ∃ o ρ', d ρ = some ⟨t, o, ρ'⟩ ∧ Rel r.s p ρ' ∧ hasTy r.ty t ∧ VR r.o t o p
def TOK (d : Env → Option (Bool × Env)) (q : PE → Option Bool) (a : AE → Option AE) : Prop := ∀ s p ρ s' b, Rel s p ρ → a s = some s' → q p = some b → ∃ ρ', d ρ = some (b, ρ') ∧ Rel s' p ρ'
def IOK (d : Env → Option (List T × Env)) (q : PE → Option (List T)) (a : AE → Option (Ty × AE)) : Prop := ∀ s p ρ r xs, Rel s p ρ → a s = some r → q p = some xs → ∃ ρ', d ρ = some (xs, ρ') ∧ Rel r.2 p ρ' ∧ ∀ x ∈ xs, hasTy r.1 x
structure OK (d : Den) (q : PD) (a : AD) : Prop where
  c : d.c = a.c
  v : VOK d.v q.v a.v
  t : TOK d.t q.t a.t
  i : IOK d.i q.i a.i
theorem tok {d q a} (h : VOK d q a) : TOK (tOf d) (pT q) (aT a) := by
  intro s p ρ s' b hR e1 e2
  obtain ⟨r, q1, rfl⟩ := Option.map_eq_some_iff.mp e1
  obtain ⟨t, q2, q3⟩ := obind e2
  obtain ⟨o, ρ', e4, h1, _, _⟩ := h s p ρ r t hR q1 q2
  exact ⟨ρ', by simp [e4, q3], h1⟩
theorem iok {d q a} (h : VOK d q a) : IOK (iOf d) (pI q) (aI a) := by
  intro s p ρ s' xs hR e1 e2
  obtain ⟨r, q1, q3⟩ := obind e1
  obtain ⟨s1, q3', rfl⟩ := Option.map_eq_some_iff.mp q3
  obtain ⟨t, q2, q4⟩ := obind e2
  obtain ⟨o, ρ', e5, h1, h2, h3⟩ := h s p ρ r t hR q1 q2
  obtain ⟨ρ2, e6, h4⟩ := reA_ok h1 h3 q3'
  exact ⟨ρ2, by simp [e5, e6, q4], h4, itTy_ok h2 q4⟩
theorem ok_val {c c' d q a} (hc : c = c') (h : VOK d q a) : OK (valD c d) (pV q) (aV c' a) := ⟨hc, h, tok h, iok h⟩
/-- a value without lists, known at once -/
theorem vok_nl {t : T} (h : t.nl = true) : VOK (fun ρ => some ⟨t, .full, ρ⟩) (fun _ => some t) (fun s => some ⟨.nl, .own .full, s⟩) := by
  intro s p ρ r t' hR e1 e2
  cases e1; cases e2
  exact ⟨.full, ρ, rfl, hR, hasTy_nl.mpr h, rfl⟩
def avar (i : Nat) (s : AE) : Option AR := match s[i]? with
  | some (some (ty, _)) => some (if ty.isNl then ⟨ty, .own .full, s⟩ else ⟨ty, .view i, s⟩)
  | _ => none
def amov (i : Nat) (s : AE) : Option AR := match s[i]? with
  | some (some (ty, a)) => some (if ty.isNl then ⟨ty, .own .full, s⟩ else ⟨ty, .own a, s.set i none⟩)
  | _ => none
theorem pget_some {p : PE} {i : Nat} {t : T} : pget p i = some t ↔ p[i]? = some (some t) := by
  unfold pget
  cases h : p[i]? with
  | none => simp
  | some x => cases x <;> simp
theorem vok_var {i : Nat} : VOK (fun ρ => match ρ[i]? with
    | some (some (t, _)) => some (if t.nl then ⟨t, .full, ρ⟩ else ⟨t, .view i, ρ⟩)
    | _ => none) (fun p => pget p i) (avar i) := by
  intro s p ρ r t hR e1 e2
  rw [pget_some] at e2
  simp only [avar] at e1
  split at e1
  · rename_i ty a e3
    obtain ⟨r1, o, r2, r3⟩ := hR.at_ _ _ _ _ e3 e2
    cases e1
    by_cases hn : ty.isNl = true
    · have := isNl_ok hn r1
      exact ⟨.full, ρ, by simp [r2, this], by simp [hn, hR], by simp [hn, r1], by simp [hn, VR, okO]⟩
    · cases ht : t.nl
      · exact ⟨.view i, ρ, by simp [r2, ht], by simp [hn, hR], by simp [hn, r1], by simp [hn, VR, e2]⟩
      · exact ⟨.full, ρ, by simp [r2, ht], by simp [hn, hR], by simp [hn, r1], by simp [hn, VR, e2]⟩
  · cases e1
theorem Rel.dead {s : AE} {p : PE} {ρ : Env} (h : Rel s p ρ) (i : Nat) : Rel (s.set i none) p ρ := by
  refine ⟨h.lp, by simp [h.ls], fun j ty a t e1 e2 => ?_⟩
  rcases getset e1 with ⟨rfl, q, _⟩ | ⟨_, q⟩
  · cases q
  · exact h.at_ _ _ _ _ q e2
theorem Rel.deadE {s : AE} {p : PE} {ρ : Env} (h : Rel s p ρ) (i : Nat) (x : Slot) : Rel (s.set i none) p (ρ.set i x) := by
  refine ⟨by simp [h.lp], by simp [h.ls], fun j ty a t e1 e2 => ?_⟩
  rcases getset e1 with ⟨rfl, q, _⟩ | ⟨n, q⟩
  · cases q
  · rw [List.getElem?_set_ne (fun q => n q.symm)]
    exact h.at_ _ _ _ _ q e2
theorem vok_mov {i : Nat} : VOK (fun ρ => match ρ[i]? with
    | some (some (t, o)) => some (if t.nl then ⟨t, .full, ρ⟩ else ⟨t, o, ρ.set i none⟩)
    | _ => none) (fun p => pget p i) (amov i) := by
  intro s p ρ r t hR e1 e2
  rw [pget_some] at e2
  simp only [amov] at e1
  split at e1
  · rename_i ty a e3
    obtain ⟨r1, o, r2, r3⟩ := hR.at_ _ _ _ _ e3 e2
    cases e1
    by_cases hn : ty.isNl = true
    · have := isNl_ok hn r1
      exact ⟨.full, ρ, by simp [r2, this], by simp [hn, hR], by simp [hn, r1], by simp [hn, VR, okO]⟩
    · cases ht : t.nl
      · exact ⟨o, ρ.set i none, by simp [r2, ht], by simp only [hn]; exact hR.deadE i none, by simp [hn, r1], by simp only [hn]; exact r3⟩
      · exact ⟨.full, ρ, by simp [r2, ht], by simp only [hn]; exact hR.dead i, by simp [hn, r1], by simp only [hn]; exact okO_full⟩
  · cases e1
def tyC (t : T) : Ty := if t.nl then .nl else match t with
  | .lst xs => if nlL xs then .lst .nl else .top
  | _ => .top
theorem tyC_ok (t : T) : hasTy (tyC t) t := by
  unfold tyC
  split
  · rename_i h; exact hasTy_nl.mpr h
  · split
    · split
      · rename_i h; exact hasTy_lst.mpr ⟨_, rfl, fun x m => hasTy_nl.mpr (nlL_mem.mp h x m)⟩
      · exact hasTy_top
    · exact hasTy_top
theorem vok_glob {G : List Nat → Option T} {x : List Nat} : VOK (fun ρ => (G x).map fun t => mk t .cold ρ) (fun _ => G x) (fun s => (G x).map fun t => ⟨tyC t, .own (if t.nl then .full else .cold), s⟩) := by
  intro s p ρ r t hR e1 e2
  simp only at e2
  simp only [e2, Option.map_some, Option.some.injEq] at e1
  subst e1
  cases h : t.nl
  · exact ⟨.cold, ρ, by simp [e2, mk, h], hR, tyC_ok t, by simp [VR, okO, h]⟩
  · exact ⟨.full, ρ, by simp [e2, mk, h], hR, tyC_ok t, by simp [VR, okO, h]⟩
/-- what may share: numbers and texts, lists, tuples -/
def shp : T → Prop
  | .lst _ => True
  | .tup _ => True
  | t => t.nl = true
def sh1A (res : Ty) (v : VO) (s : AE) : Option AR :=
  if res.isNl then some ⟨res, .own .full, s⟩ else match res with
    | .lst a => if a.isNl then some ⟨res, .own .full, s⟩ else (reA v s).map fun s' => ⟨res, .own .shal, s'⟩
    | _ => (reA v s).map fun s' => ⟨res, .own .cold, s'⟩
theorem sh1_ok {g : T → Option T} {t y : T} {o : Own} {v : VO} {s : AE} {p : PE} {ρ : Env} {res : Ty} {r : AR} (hR : Rel s p ρ) (hv : VR v t o p) (hg : g t = some y) (hs : shp y) (hy : hasTy res y) (e : sh1A res v s = some r) :
    ∃ o' ρ', shareR1 g t o ρ = some ⟨y, o', ρ'⟩ ∧ Rel r.s p ρ' ∧ hasTy r.ty y ∧ VR r.o y o' p := by
  unfold sh1A at e
  split at e
  · rename_i hn
    cases e
    exact ⟨.full, ρ, by simp [hg, isNl_ok hn hy], hR, hy, rfl⟩
  · split at e
    · rename_i a hn
      obtain ⟨ys, rfl, hys⟩ := hasTy_lst.mp hy
      split at e
      · rename_i ha
        cases e
        have : nlL ys = true := nlL_mem.mpr fun x m => isNl_ok ha (hys x m)
        exact ⟨.full, ρ, by simp [hg, this], hR, hy, rfl⟩
      · obtain ⟨s', e', rfl⟩ := Option.map_eq_some_iff.mp e; replace e := e'; clear e'
        obtain ⟨ρ', e2, h2⟩ := reA_ok hR hv e
        cases hn : nlL ys
        · exact ⟨.shal, ρ', by simp [hg, hn, e2], h2, hy, by simp [VR, okO]⟩
        · exact ⟨.full, ρ, by simp [hg, hn], reA_weak hR e, hy, by simp [VR, okO]⟩
    · obtain ⟨s', e', rfl⟩ := Option.map_eq_some_iff.mp e; replace e := e'; clear e'
      obtain ⟨ρ', e2, h2⟩ := reA_ok hR hv e
      cases hn : y.nl
      · cases y with
        | lst ys =>
          cases hl : nlL ys
          · exact ⟨.shal, ρ', by simp [hg, hl, e2], h2, hy, by simp [VR, okO]⟩
          · exact ⟨.full, ρ, by simp [hg, hl], reA_weak hR e, hy, by simp [VR, okO]⟩
        | tup ys => exact ⟨.cold, ρ', by simp at hn; simp [hg, hn, e2], h2, hy, by simp [VR, okO]⟩
        | _ => simp [shp, hn] at hs
      · exact ⟨.full, ρ, by simp [hg, hn], reA_weak hR e, hy, by simp [VR, okO]⟩
def sh2A (res : Ty) (v w : VO) (s : AE) : Option AR :=
  if res.isNl then some ⟨res, .own .full, s⟩ else match res with
    | .lst a => if a.isNl then some ⟨res, .own .full, s⟩ else (reA v s).bind fun s1 => (reA w s1).map fun s' => ⟨res, .own .shal, s'⟩
    | _ => (reA v s).bind fun s1 => (reA w s1).map fun s' => ⟨res, .own .cold, s'⟩
theorem sh2_ok {g : T → T → Option T} {t u y : T} {o q : Own} {v w : VO} {s : AE} {p : PE} {ρ : Env} {res : Ty} {r : AR} (hR : Rel s p ρ) (hv : VR v t o p) (hw : VR w u q p) (hg : g t u = some y) (hs : shp y) (hy : hasTy res y) (e : sh2A res v w s = some r) :
    ∃ o' ρ', shareR2 g t o u q ρ = some ⟨y, o', ρ'⟩ ∧ Rel r.s p ρ' ∧ hasTy r.ty y ∧ VR r.o y o' p := by
  unfold sh2A at e
  split at e
  · rename_i hn
    cases e
    exact ⟨.full, ρ, by simp [hg, isNl_ok hn hy], hR, hy, rfl⟩
  · split at e
    · rename_i a hn
      obtain ⟨ys, rfl, hys⟩ := hasTy_lst.mp hy
      split at e
      · rename_i ha
        cases e
        have : nlL ys = true := nlL_mem.mpr fun x m => isNl_ok ha (hys x m)
        exact ⟨.full, ρ, by simp [hg, this], hR, hy, rfl⟩
      · obtain ⟨s1, e0, e⟩ := obind e
        obtain ⟨s', e', rfl⟩ := Option.map_eq_some_iff.mp e; replace e := e'; clear e'
        obtain ⟨ρ1, e2, h2⟩ := reA_ok hR hv e0
        obtain ⟨ρ', e3, h3⟩ := reA_ok h2 hw e
        cases hn : nlL ys
        · exact ⟨.shal, ρ', by simp [hg, hn, e2, e3], h3, hy, by simp [VR, okO]⟩
        · exact ⟨.full, ρ, by simp [hg, hn], reA_weak (reA_weak hR e0) e, hy, by simp [VR, okO]⟩
    · obtain ⟨s1, e0, e⟩ := obind e
      obtain ⟨s', e', rfl⟩ := Option.map_eq_some_iff.mp e; replace e := e'; clear e'
      obtain ⟨ρ1, e2, h2⟩ := reA_ok hR hv e0
      obtain ⟨ρ', e3, h3⟩ := reA_ok h2 hw e
      cases hn : y.nl
      · cases y with
        | lst ys =>
          cases hl : nlL ys
          · exact ⟨.shal, ρ', by simp [hg, hl, e2, e3], h3, hy, by simp [VR, okO]⟩
          · exact ⟨.full, ρ, by simp [hg, hl], reA_weak (reA_weak hR e0) e, hy, by simp [VR, okO]⟩
        | tup ys => exact ⟨.cold, ρ', by simp at hn; simp [hg, hn, e2, e3], h3, hy, by simp [VR, okO]⟩
        | _ => simp [shp, hn] at hs
      · exact ⟨.full, ρ, by simp [hg, hn], reA_weak (reA_weak hR e0) e, hy, by simp [VR, okO]⟩
def addTy (a b : Ty) : Ty := if a.isNl && b.isNl then .nl else match a, b with
  | .lst a, .lst b => .lst (jn a b)
  | .tup as, .tup bs => .tup (as ++ bs)
  | _, _ => .top
def mulTy (a : Ty) : Ty := if a.isNl then .nl else match a with
  | .lst a => .lst a
  | _ => .top
def binTy (op : BO) (a b : Ty) : Ty := match op with
  | .add => addTy a b
  | .mul => mulTy a
  | _ => .nl
theorem bin_shp {op : BO} {x y z : T} (e : binV op x y = some z) : shp z := by
  cases op <;> cases x <;> cases y <;> simp only [binV] at e <;> (try cases e) <;> (repeat' split at e) <;> (try cases e) <;> simp [shp]
theorem binTy_ok {op : BO} {a b : Ty} {x y z : T} (hx : hasTy a x) (hy : hasTy b y) (e : binV op x y = some z) : hasTy (binTy op a b) z := by
  cases op
  case add =>
    show hasTy (addTy a b) z
    unfold addTy
    split
    · rename_i h
      simp only [Bool.and_eq_true] at h
      have h1 := isNl_ok h.1 hx
      have h2 := isNl_ok h.2 hy
      rw [hasTy_nl]
      cases x <;> cases y <;> simp only [binV] at e <;> (try cases e) <;> (repeat' split at e) <;> (try cases e) <;> simp at h1 h2 <;> simp [nlL_append, h1, h2]
    · split
      · obtain ⟨xs, rfl, h1⟩ := hasTy_lst.mp hx
        obtain ⟨ys, rfl, h2⟩ := hasTy_lst.mp hy
        simp only [binV] at e
        split at e
        · cases e
          refine hasTy_lst.mpr ⟨_, rfl, fun z m => ?_⟩
          rcases List.mem_append.mp m with m | m
          · exact jn_l (h1 z m)
          · exact jn_r (h2 z m)
        · cases e
      · obtain ⟨xs, rfl, h1⟩ := hasTy_tup.mp hx
        obtain ⟨ys, rfl, h2⟩ := hasTy_tup.mp hy
        simp only [binV] at e
        split at e
        · cases e; exact hasTy_tup.mpr ⟨_, rfl, hasTyL_app h1 h2⟩
        · cases e
      · exact hasTy_top
  case mul =>
    show hasTy (mulTy a) z
    unfold mulTy
    split
    · rename_i h
      have h1 := isNl_ok h hx
      rw [hasTy_nl]
      cases x <;> cases y <;> simp only [binV] at e <;> (try cases e) <;> (repeat' split at e) <;> (try cases e) <;> simp at h1 <;> rfl
    · split
      · obtain ⟨xs, rfl, h1⟩ := hasTy_lst.mp hx
        cases y <;> simp only [binV] at e <;> (try cases e)
        split at e
        · cases e
          refine hasTy_lst.mpr ⟨_, rfl, fun z m => ?_⟩
          obtain ⟨l, m1, m2⟩ := List.mem_flatten.mp m
          rw [(List.mem_replicate.mp m1).2] at m2
          exact h1 z m2
        · cases e
      · exact hasTy_top
  all_goals
    show hasTy .nl z
    rw [hasTy_nl]
    cases x <;> cases y <;> simp only [binV] at e <;> (try cases e) <;> (repeat' split at e) <;> (try cases e) <;> rfl
def repA (op : BO) (ty : Ty) (v : VO) : Bool := match op with
  | .mul => if ty.isNl then true else match ty with
    | .lst a => a.isNl
    | _ => false
  | _ => true
theorem repA_ok {op : BO} {ty : Ty} {v : VO} {t : T} {o : Own} {p : PE} (h : repA op ty v = true) (ht : hasTy ty t) (hv : VR v t o p) : repOk op t o = true := by
  cases op
  case mul =>
    unfold repA at h
    by_cases hn : ty.isNl = true
    · have := isNl_ok hn ht
      cases t <;> first | (cases o <;> rfl) | simp [T.nl] at this
    · simp only [hn] at h
      cases ty <;> simp at h
      rename_i a
      obtain ⟨xs, rfl, hx⟩ := hasTy_lst.mp ht
      exact nlL_mem.mpr fun x m => isNl_ok h (hx x m)
  all_goals cases t <;> cases o <;> rfl
def addA : BO → Ty → VO → Ty → VO → Bool
  | .add, .lst _, .own .full, .lst _, .own .full => true
  | _, _, _, _, _ => false
def bin2A (op : BO) (a : Ty) (v : VO) (b : Ty) (w : VO) (s : AE) : Option AR := if addA op a v b w then some ⟨binTy op a b, .own .full, s⟩ else sh2A (binTy op a b) v w s
theorem sh2A_weak {res : Ty} {v w : VO} {s : AE} {r : AR} {p : PE} {ρ : Env} (e : sh2A res v w s = some r) (hR : Rel s p ρ) : Rel r.s p ρ ∧ r.ty = res ∧ ∃ a, r.o = .own a := by
  have two : ∀ {z : AE → AR} {s1 : AE}, reA v s = some s1 → (reA w s1).map z = some r → (∀ s, (z s).s = s ∧ (z s).ty = res ∧ ∃ a, (z s).o = .own a) → Rel r.s p ρ ∧ r.ty = res ∧ ∃ a, r.o = .own a := fun {z s1} e0 e hz => by
    obtain ⟨s', e', rfl⟩ := Option.map_eq_some_iff.mp e
    obtain ⟨z1, z2, z3⟩ := hz s'
    rw [z1]
    exact ⟨reA_weak (reA_weak hR e0) e', z2, z3⟩
  unfold sh2A at e
  split at e
  · cases e; exact ⟨hR, rfl, _, rfl⟩
  · split at e
    · split at e
      · cases e; exact ⟨hR, rfl, _, rfl⟩
      · obtain ⟨s1, e0, e⟩ := obind e
        exact two e0 e fun s => ⟨rfl, rfl, _, rfl⟩
    · obtain ⟨s1, e0, e⟩ := obind e
      exact two e0 e fun s => ⟨rfl, rfl, _, rfl⟩
theorem bin2_ok {op : BO} {a b : Ty} {t u y : T} {o q : Own} {v w : VO} {s : AE} {p : PE} {ρ : Env} {r : AR} (hR : Rel s p ρ) (hv : VR v t o p) (hw : VR w u q p) (ht : hasTy a t) (hu : hasTy b u) (hg : binV op t u = some y) (e : bin2A op a v b w s = some r) :
    ∃ o' ρ', binR op t o u q ρ = some ⟨y, o', ρ'⟩ ∧ Rel r.s p ρ' ∧ hasTy r.ty y ∧ VR r.o y o' p := by
  have hy := binTy_ok ht hu hg
  unfold bin2A at e
  by_cases hc : addFull op t o u q = true
  · have eb : binR op t o u q ρ = some ⟨y, .full, ρ⟩ := by unfold binR; rw [if_pos hc, hg]; rfl
    split at e
    · cases e
      exact ⟨.full, ρ, eb, hR, hy, rfl⟩
    · obtain ⟨h1, h2, a, h3⟩ := sh2A_weak e hR
      refine ⟨.full, ρ, eb, h1, by rw [h2]; exact hy, ?_⟩
      rw [h3]; exact okO_full
  · have eb : binR op t o u q ρ = shareR2 (binV op) t o u q ρ := by unfold binR; rw [if_neg hc]
    split at e
    · rename_i ha
      exfalso
      unfold addA at ha
      split at ha
      · obtain ⟨xs, rfl, _⟩ := hasTy_lst.mp ht
        obtain ⟨ys, rfl, _⟩ := hasTy_lst.mp hu
        have hv : o = .full := hv
        have hw : q = .full := hw
        subst hv hw
        exact hc rfl
      · cases ha
    · rw [eb]
      exact sh2_ok hR hv hw hg (bin_shp hg) hy e
end Ev
namespace Ev
open L2
open PySem (sizeLine)
def anyA : List AD → Bool
  | [] => false
  | d :: ds => d.c || anyA ds
inductive OKs : List Den → List PD → List AD → Prop
  | nil : OKs [] [] []
  | cons {d q a ds qs as} : OK d q a → OKs ds qs as → OKs (d :: ds) (q :: qs) (a :: as)
theorem OKs.any {ds qs as} (h : OKs ds qs as) : anyC ds = anyA as := by
  induction h with
  | nil => rfl
  | cons h _ ih => simp [anyC, anyA, h.c, ih]
def voA (c : Bool) (r : AR) : Option AR := if c then (valA r).map fun x => ⟨x.1, .own x.2.1, x.2.2⟩ else some r
theorem voA_ok {c : Bool} {r r' : AR} {p : PE} {ρ : Env} {t : T} {o : Own} (h : Rel r.s p ρ) (k : VR r.o t o p) (e : voA c r = some r') : ∃ o' ρ', vo c ⟨t, o, ρ⟩ = some ⟨t, o', ρ'⟩ ∧ Rel r'.s p ρ' ∧ VR r'.o t o' p ∧ r'.ty = r.ty := by
  cases c
  · cases e; exact ⟨o, ρ, rfl, h, k, rfl⟩
  · simp only [voA, if_true] at e
    obtain ⟨x, e1, rfl⟩ := Option.map_eq_some_iff.mp e
    obtain ⟨o', ρ', e2, h2, h3, h4⟩ := valA_ok h k e1
    exact ⟨o', ρ', by simpa using e2, h2, h3, h4⟩
def aVs : List AD → AE → Option (List Ty × List VO × AE)
  | [], s => some ([], [], s)
  | e :: es, s => (e.v s).bind fun r0 => (voA (anyA es) r0).bind fun r => (aVs es r.s).map fun x => (r.ty :: x.1, r.o :: x.2.1, x.2.2)
def VRL : List VO → List T → List Own → PE → Prop
  | [], ts, os, _ => ts = [] ∧ os = []
  | v :: vs, ts, os, p => ∃ t ts' o os', ts = t :: ts' ∧ os = o :: os' ∧ VR v t o p ∧ VRL vs ts' os' p
theorem evV_ok {ds qs as} (h : OKs ds qs as) : ∀ {s p ρ x ts}, Rel s p ρ → aVs as s = some x → pL qs p = some ts → ∃ os ρ', evV ds ρ = some (ts, os, ρ') ∧ Rel x.2.2 p ρ' ∧ hasTyL x.1 ts ∧ VRL x.2.1 ts os p := by
  induction h with
  | nil =>
    intro s p ρ x ts hR e1 e2
    cases e1; cases e2
    exact ⟨[], ρ, rfl, hR, by simp [hasTyL], by simp [VRL]⟩
  | cons h hs ih =>
    intro s p ρ x ts hR e1 e2
    simp only [aVs] at e1
    obtain ⟨r0, a1, e1⟩ := obind e1
    obtain ⟨r, a2, e1⟩ := obind e1
    obtain ⟨y, a3, e3⟩ := Option.map_eq_some_iff.mp e1
    subst e3
    simp only [pL] at e2
    obtain ⟨t, b1, e2⟩ := obind e2
    obtain ⟨ts', b2, e4⟩ := Option.map_eq_some_iff.mp e2
    subst e4
    obtain ⟨o, ρ1, c1, h1, h2, h3⟩ := h.v _ _ _ _ _ hR a1 b1
    obtain ⟨o', ρ2, c2, h4, h5, h6⟩ := voA_ok h1 h3 a2
    obtain ⟨os, ρ3, c3, h7, h8, h9⟩ := ih h4 a3 b2
    refine ⟨o' :: os, ρ3, ?_, h7, ?_, ?_⟩
    · simp only [evV, c1, Option.bind_some, hs.any, c2, c3, Option.map_some]
    · simp only [hasTyL]; exact ⟨t, ts', rfl, h6 ▸ h2, h8⟩
    · simp only [VRL]; exact ⟨t, ts', o', os, rfl, rfl, h5, h9⟩
def aLs : List AD → AE → Option (List Ty × Bool × AE)
  | [], s => some ([], true, s)
  | e :: es, s => (e.v s).bind fun r0 => (valA r0).bind fun x => (aLs es x.2.2).map fun y => (x.1 :: y.1, x.2.1.isFull && y.2.1, y.2.2)
def fs (b : Bool) : AO := if b then .full else .shal
theorem minO_ok {a : AO} {b : Bool} {o q : Own} (h : okO a o) (k : okO (fs b) q) : okO (fs (a.isFull && b)) (minO o q) := by
  cases a <;> cases b <;> simp only [okO, fs, AO.isFull] at h k ⊢ <;> simp [okO, fs] at h k ⊢ <;> (try subst h) <;> (try subst k) <;> (try rcases h with rfl | rfl) <;> (try rcases h with rfl | rfl) <;> (try rcases k with rfl | rfl) <;> simp [minO, Own.isFull]
theorem evL_ok {ds qs as} (h : OKs ds qs as) : ∀ {s p ρ x ts}, Rel s p ρ → aLs as s = some x → pL qs p = some ts → ∃ o ρ', evL ds ρ = some (ts, o, ρ') ∧ Rel x.2.2 p ρ' ∧ hasTyL x.1 ts ∧ okO (fs x.2.1) o := by
  induction h with
  | nil =>
    intro s p ρ x ts hR e1 e2
    cases e1; cases e2
    exact ⟨.full, ρ, rfl, hR, by simp [hasTyL], rfl⟩
  | cons h hs ih =>
    intro s p ρ x ts hR e1 e2
    simp only [aLs] at e1
    obtain ⟨r0, a1, e1⟩ := obind e1
    obtain ⟨r, a2, e1⟩ := obind e1
    obtain ⟨y, a3, e3⟩ := Option.map_eq_some_iff.mp e1
    subst e3
    simp only [pL] at e2
    obtain ⟨t, b1, e2⟩ := obind e2
    obtain ⟨ts', b2, e4⟩ := Option.map_eq_some_iff.mp e2
    subst e4
    obtain ⟨o, ρ1, c1, h1, h2, h3⟩ := h.v _ _ _ _ _ hR a1 b1
    obtain ⟨o', ρ2, c2, h4, h5, h6⟩ := valA_ok h1 h3 a2
    obtain ⟨os, ρ3, c3, h7, h8, h9⟩ := ih h4 a3 b2
    refine ⟨minO o' os, ρ3, ?_, h7, ?_, minO_ok h5 h9⟩
    · simp only [evL, c1, Option.bind_some, c2, c3, Option.map_some]
    · simp only [hasTyL]; exact ⟨t, ts', rfl, h6 ▸ h2, h8⟩
def reLA : List VO → AE → Option AE
  | [], s => some s
  | v :: vs, s => (reA v s).bind fun s' => reLA vs s'
theorem reLA_weak : ∀ {vs : List VO} {s s' : AE} {p : PE} {ρ : Env}, Rel s p ρ → reLA vs s = some s' → Rel s' p ρ
  | [], _, _, _, _, h, e => by cases e; exact h
  | v :: vs, _, _, _, _, h, e => by
    simp only [reLA] at e
    obtain ⟨s1, e1, e⟩ := obind e
    exact reLA_weak (reA_weak h e1) e
theorem reL_ok : ∀ {vs : List VO} {ts : List T} {os : List Own} {s s' : AE} {p : PE} {ρ : Env}, Rel s p ρ → VRL vs ts os p → reLA vs s = some s' → ∃ ρ', reL ts os ρ = some (ts, ρ') ∧ Rel s' p ρ'
  | [], _, _, _, _, _, ρ, h, k, e => by
    simp only [VRL] at k
    obtain ⟨rfl, rfl⟩ := k
    cases e
    exact ⟨ρ, rfl, h⟩
  | v :: vs, _, _, _, _, _, ρ, h, k, e => by
    simp only [VRL] at k
    obtain ⟨t, ts, o, os, rfl, rfl, k1, k2⟩ := k
    simp only [reLA] at e
    obtain ⟨s1, e1, e⟩ := obind e
    obtain ⟨ρ1, c1, h1⟩ := reA_ok h k1 e1
    obtain ⟨ρ2, c2, h2⟩ := reL_ok h1 k2 e
    exact ⟨ρ2, by simp [c1, c2], h2⟩
theorem Rel.set {s : AE} {p : PE} {ρ : Env} {i : Nat} {ty : Ty} {a : AO} {t : T} {o : Own} (h : Rel s p ρ) (ht : hasTy ty t) (ho : okO a o) (hi : i < ρ.length) : Rel (s.set i (some (ty, a))) (p.set i (some t)) (ρ.set i (some (t, o))) := by
  refine ⟨by simp [h.lp], by simp [h.ls], fun j ty' a' t' e1 e2 => ?_⟩
  rcases getset e1 with ⟨rfl, q, _⟩ | ⟨n, q⟩
  · cases q
    rw [List.getElem?_set_self (by rw [h.lp]; exact hi)] at e2
    cases e2
    exact ⟨ht, o, by simp [hi], ho⟩
  · rw [List.getElem?_set_ne (fun q => n q.symm)] at e2 ⊢
    exact h.at_ _ _ _ _ q e2
def kidA (a : AO) : AO := match a with
  | .full => .full
  | _ => .cold
theorem kidA_ok {a : AO} {o : Own} (h : okO a o) : okO (kidA a) (kidO o) := by
  cases a <;> simp only [okO, kidA] at h ⊢
  · subst h; rfl
  · rcases h with rfl | rfl <;> simp [okO]
  · rcases h with rfl | rfl | rfl <;> simp [okO]
mutual
def bindA : Tg → Ty → AO → AE → Option AE
  | .nm i, ty, a, s => some (s.set i (some (ty, if ty.isNl then .full else a)))
  | .tp ts, ty, a, s => bindAs ts (match ty with
    | .tup as => as
    | ty => ts.map fun _ => itTy ty) (kidA a) s
def bindAs : List Tg → List Ty → AO → AE → Option AE
  | [], _, _, s => some s
  | g :: gs, ty :: tys, a, s => (bindA g ty a s).bind fun s' => bindAs gs tys a s'
  | _ :: _, [], _, _ => none
end
mutual
def tgOk (own : List Nat) : Tg → Bool
  | .nm i => own.contains i
  | .tp ts => tgsOk own ts
def tgsOk (own : List Nat) : List Tg → Bool
  | [] => true
  | g :: gs => tgOk own g && tgsOk own gs
end
theorem hasTyL_rep {α : Type} {ty : Ty} : ∀ {gs : List α} {ts : List T}, gs.length = ts.length → (∀ x ∈ ts, hasTy ty x) → hasTyL (gs.map fun _ => ty) ts
  | [], [], _, _ => by simp [hasTyL]
  | _ :: gs, t :: ts, h, r => by
    simp only [List.map_cons, hasTyL]
    exact ⟨t, ts, rfl, r t (by simp), hasTyL_rep (by simpa using h) fun x m => r x (by simp [m])⟩
  | [], _ :: _, h, _ => by simp at h
  | _ :: _, [], h, _ => by simp at h
theorem pbinds_len : ∀ {gs : List Tg} {ts : List T} {p p' : PE}, pbinds gs ts p = some p' → gs.length = ts.length
  | [], [], _, _, _ => rfl
  | g :: gs, t :: ts, _, _, h => by
    simp only [pbinds] at h
    obtain ⟨_, _, h⟩ := obind h
    simp [pbinds_len h]
  | [], _ :: _, _, _, h => by simp [pbinds] at h
  | _ :: _, [], _, _, h => by simp [pbinds] at h
mutual
theorem bind_ok : ∀ {tg : Tg} {x : T} {ty : Ty} {a : AO} {o : Own} {s s' : AE} {p p' : PE} {ρ : Env}, pbind tg x p = some p' → bindA tg ty a s = some s' → hasTy ty x → okO a o → Rel s p ρ → ∃ ρ', bindT tg x o ρ = some ρ' ∧ Rel s' p' ρ'
  | .nm i, x, ty, a, o, s, s', p, p', ρ, h, e, ht, ho, hR => by
    simp only [pbind] at h
    split at h
    · rename_i hi
      cases h
      cases e
      rw [hR.lp] at hi
      refine ⟨ρ.set i (some (x, if x.nl then .full else o)), by simp [hi], hR.set ht ?_ hi⟩
      split
      · rename_i hn; rw [isNl_ok hn ht]; rfl
      · split
        · exact okO_full
        · exact ho
    · cases h
  | .tp ts, x, ty, a, o, s, s', p, p', ρ, h, e, ht, ho, hR => by
    cases x with
    | tup xs =>
      simp only [pbind] at h
      simp only [bindA] at e
      simp only [bindT]
      refine binds_ok h e ?_ (kidA_ok ho) hR
      split
      · obtain ⟨ys, q, h2⟩ := hasTy_tup.mp ht
        cases q
        exact h2
      · exact hasTyL_rep (pbinds_len h) (itTy_ok ht rfl)
    | _ => simp [pbind] at h
theorem binds_ok : ∀ {gs : List Tg} {xs : List T} {tys : List Ty} {a : AO} {o : Own} {s s' : AE} {p p' : PE} {ρ : Env}, pbinds gs xs p = some p' → bindAs gs tys a s = some s' → hasTyL tys xs → okO a o → Rel s p ρ → ∃ ρ', bindTs gs xs o ρ = some ρ' ∧ Rel s' p' ρ'
  | [], [], tys, a, o, s, s', p, p', ρ, h, e, ht, ho, hR => by
    simp only [pbinds] at h
    simp only [bindAs] at e
    cases h; cases e
    exact ⟨ρ, rfl, hR⟩
  | g :: gs, x :: xs, tys, a, o, s, s', p, p', ρ, h, e, ht, ho, hR => by
    simp only [pbinds] at h
    obtain ⟨p1, h1, h⟩ := obind h
    cases tys with
    | nil => simp [hasTyL] at ht
    | cons ty tys =>
      simp only [hasTyL] at ht
      obtain ⟨_, _, q, t1, t2⟩ := ht
      cases q
      simp only [bindAs] at e
      obtain ⟨s1, e1, e⟩ := obind e
      obtain ⟨ρ1, c1, r1⟩ := bind_ok h1 e1 t1 ho hR
      obtain ⟨ρ2, c2, r2⟩ := binds_ok h e t2 ho r1
      exact ⟨ρ2, by simp [bindTs, c1, c2], r2⟩
  | [], _ :: _, _, _, _, _, _, _, _, _, h, _, _, _, _ => by simp [pbinds] at h
  | _ :: _, [], _, _, _, _, _, _, _, _, h, _, _, _, _ => by simp [pbinds] at h
end
/-- two frames alike outside some slots -/
def Agr (own : List Nat) (p p' : PE) : Prop := p'.length = p.length ∧ ∀ i, i ∉ own → p'[i]? = p[i]?
mutual
theorem bind_agr {own : List Nat} : ∀ {tg : Tg} {x : T} {p p' : PE}, tgOk own tg = true → pbind tg x p = some p' → Agr own p p'
  | .nm i, x, p, p', hi, h => by
    simp only [pbind] at h
    split at h
    · cases h
      simp only [tgOk, List.contains_iff_mem] at hi
      exact ⟨by simp, fun j hj => List.getElem?_set_ne (fun (q : i = j) => hj (by rw [← q]; exact hi))⟩
    · cases h
  | .tp ts, x, p, p', hi, h => by
    cases x with
    | tup xs => simp only [pbind] at h; simp only [tgOk] at hi; exact binds_agr hi h
    | _ => simp [pbind] at h
theorem binds_agr {own : List Nat} : ∀ {gs : List Tg} {xs : List T} {p p' : PE}, tgsOk own gs = true → pbinds gs xs p = some p' → Agr own p p'
  | [], [], p, p', _, h => by simp only [pbinds] at h; cases h; exact ⟨rfl, fun _ _ => rfl⟩
  | g :: gs, x :: xs, p, p', hi, h => by
    simp only [pbinds] at h
    obtain ⟨p1, h1, h⟩ := obind h
    simp only [tgsOk, Bool.and_eq_true] at hi
    have a := bind_agr hi.1 h1
    have b := binds_agr hi.2 h
    exact ⟨by rw [b.1, a.1], fun j hj => by rw [b.2 j hj, a.2 j hj]⟩
  | [], _ :: _, _, _, _, h => by simp [pbinds] at h
  | _ :: _, [], _, _, _, h => by simp [pbinds] at h
end
def wipeA : List Nat → AE → AE
  | [], s => s
  | i :: is, s => (wipeA is s).set i none
theorem wipeA_len : ∀ {is : List Nat} {s : AE}, (wipeA is s).length = s.length
  | [], _ => rfl
  | i :: is, s => by simp [wipeA, wipeA_len (is := is)]
theorem wipeA_at : ∀ {own : List Nat} {s : AE} {i : Nat} {ty : Ty} {a : AO}, (wipeA own s)[i]? = some (some (ty, a)) → i ∉ own ∧ s[i]? = some (some (ty, a))
  | [], _, _, _, _, h => ⟨by simp, h⟩
  | k :: ks, s, i, ty, a, h => by
    rcases getset h with ⟨_, q, _⟩ | ⟨n, q⟩
    · cases q
    · have := wipeA_at q
      exact ⟨by simp [n, this.1], this.2⟩
theorem Rel.wipe : ∀ {own : List Nat} {s : AE} {p : PE} {ρ : Env}, Rel s p ρ → Rel (wipeA own s) p (wipeE own ρ)
  | [], _, _, _, h => h
  | i :: is, _, _, _, h => by
    simp only [wipeA, wipeE]
    exact (Rel.wipe h).deadE i none
theorem Rel.agr {own : List Nat} {s : AE} {p p' : PE} {ρ : Env} (h : Rel s p' ρ) (a : Agr own p p') : Rel (wipeA own s) p ρ := by
  refine ⟨by rw [← h.lp, a.1], by rw [wipeA_len, h.ls], fun i ty b t e1 e2 => ?_⟩
  obtain ⟨n, e⟩ := wipeA_at e1
  exact h.at_ _ _ _ _ e (by rw [a.2 i n]; exact e2)
theorem wipeE_at : ∀ {own : List Nat} {ρ : Env} {i : Nat}, i ∉ own → (wipeE own ρ)[i]? = ρ[i]?
  | [], _, _, _ => rfl
  | k :: ks, ρ, i, h => by
    simp only [wipeE]
    rw [List.getElem?_set_ne (fun q => h (by simp [q])), wipeE_at (fun m => h (by simp [m]))]
theorem Rel.wipe2 {own : List Nat} {s : AE} {p : PE} {ρ : Env} (h : Rel (wipeA own s) p ρ) : Rel (wipeA own s) p (wipeE own ρ) := by
  refine ⟨by rw [wipeE_len]; exact h.lp, by rw [wipeE_len]; exact h.ls, fun i ty a t e1 e2 => ?_⟩
  rw [wipeE_at (wipeA_at e1).1]
  exact h.at_ _ _ _ _ e1 e2
def bkA (s0 : AE) (i : Nat) : ASl := match s0[i]? with
    | some (some (ty, .full)) => if ty.isNl then some (ty, .full) else none
    | _ => none
def bkSl (ρ0 : Env) (i : Nat) : Slot := match ρ0[i]? with
    | some (some (t, .full)) => if t.nl then some (t, .full) else none
    | _ => none
theorem backE_cons {ρ0 ρ : Env} {i : Nat} {is : List Nat} : backE ρ0 (i :: is) ρ = backE ρ0 is (ρ.set i (bkSl ρ0 i)) := by
  simp only [backE, bkSl]
  generalize ρ0[i]? = x
  rcases x with _ | _ | ⟨t, o⟩ <;> try rfl
  cases o <;> try rfl
  simp only
  split <;> rfl
def backA (s0 : AE) : List Nat → AE → AE
  | [], s => s
  | i :: is, s => backA s0 is (s.set i (bkA s0 i))
theorem bk_ok {s0 : AE} {p : PE} {ρ0 : Env} (h0 : Rel s0 p ρ0) {i : Nat} {ty : Ty} {a : AO} {t : T} (e1 : bkA s0 i = some (ty, a)) (e2 : p[i]? = some (some t)) : hasTy ty t ∧ bkSl ρ0 i = some (t, .full) ∧ a = .full := by
  unfold bkA at e1
  split at e1
  · rename_i ty' e3
    split at e1
    · rename_i hn
      cases e1
      obtain ⟨r1, o, r2, r3⟩ := h0.at_ _ _ _ _ e3 e2
      cases r3
      have := isNl_ok hn r1
      exact ⟨r1, by simp [bkSl, r2, this], rfl⟩
    · cases e1
  · cases e1
theorem back_ok {s0 : AE} {p : PE} {ρ0 : Env} (h0 : Rel s0 p ρ0) : ∀ {own : List Nat} {s : AE} {ρ : Env}, Rel s p ρ → Rel (backA s0 own s) p (backE ρ0 own ρ)
  | [], _, _, h => h
  | i :: is, s, ρ, h => by
    simp only [backA, backE_cons]
    refine back_ok h0 ⟨by simp [h.lp], by simp [h.ls], fun j ty a t e1 e2 => ?_⟩
    rcases getset e1 with ⟨rfl, q, hl⟩ | ⟨n, q⟩
    · obtain ⟨r1, r2, rfl⟩ := bk_ok h0 q.symm e2
      exact ⟨r1, .full, by rw [List.getElem?_set_self (by rw [← h.ls]; exact hl), r2], rfl⟩
    · rw [List.getElem?_set_ne (fun q => n q.symm)]
      exact h.at_ _ _ _ _ q e2
def aTs : List AD → AE → Option AE
  | [], s => some s
  | [c], s => c.t s
  | _, _ => none
theorem evTs_ok {ds qs as} (h : OKs ds qs as) : TOK (evTs ds) (pTs qs) (aTs as) := by
  intro s p ρ s' b hR e1 e2
  cases h with
  | nil => cases e1; cases e2; exact ⟨ρ, rfl, hR⟩
  | cons h hs =>
    cases hs with
    | nil => exact h.t _ _ _ _ _ hR e1 e2
    | cons _ _ => simp [aTs] at e1
/-- one turn of a comprehension -/
def lcA (own : List Nat) (tg : Tg) (ty : Ty) (ifs : List AD) (elt : AD) (s : AE) : Option (Ty × AO × AE) :=
  (bindA tg ty .cold (wipeA own s)).bind fun s1 => (aTs ifs s1).bind fun s2 => (elt.v s2).bind fun r => (valA r).bind fun x => (jnA s2 x.2.2).map fun s3 => (x.1, x.2.1, s3)
def fixL (own : List Nat) (tg : Tg) (ty : Ty) (ifs : List AD) (elt : AD) : Nat → AE → Option (Ty × AO × AE)
  | 0, _ => none
  | n + 1, s => (lcA own tg ty ifs elt s).bind fun x => if leA (wipeA own x.2.2) (wipeA own s) then some (x.1, x.2.1, s) else (jnA (wipeA own s) (wipeA own x.2.2)).bind (fixL own tg ty ifs elt n)
theorem fixL_ok {own tg ty ifs elt} : ∀ {n : Nat} {s : AE} {x : Ty × AO × AE}, fixL own tg ty ifs elt n s = some x → ∃ s', lcA own tg ty ifs elt x.2.2 = some (x.1, x.2.1, s') ∧ leA (wipeA own s') (wipeA own x.2.2) = true
  | 0, _, _, h => by simp [fixL] at h
  | n + 1, s, x, h => by
    simp only [fixL] at h
    obtain ⟨y, h1, h⟩ := obind h
    split at h
    · rename_i hl
      cases h
      exact ⟨y.2.2, h1, hl⟩
    · obtain ⟨z, _, h⟩ := obind h
      exact fixL_ok h
theorem minO_acc {eo : AO} {o q : Own} (h : okO (fs eo.isFull) o) (k : okO eo q) : okO (fs eo.isFull) (minO o q) := by
  have h' : okO (fs eo.isFull) o := h
  cases eo
  · cases h; cases k; rfl
  · rcases h with rfl | rfl <;> rcases k with rfl | rfl <;> simp [okO, fs, AO.isFull]
  · rcases h with rfl | rfl <;> rcases k with rfl | rfl | rfl <;> simp [okO, fs, AO.isFull]
/-- a test and an item -/
theorem lc_ok {own : List Nat} {tg : Tg} {ty : Ty} {dis qis ais} {d : Den} {q : PD} {a : AD} {s s' : AE} {ety : Ty} {eo : AO} {p : PE} (h : OK d q a) (hs : OKs dis qis ais) (htg : tgOk own tg = true) (e : lcA own tg ty ais a s = some (ety, eo, s')) (hl : leA (wipeA own s') (wipeA own s) = true) :
    ∀ (xs ys acc : List T) (o : Own) (ρ : Env), Rel (wipeA own s) p ρ → (∀ x ∈ xs, hasTy ty x) → okO (fs eo.isFull) o → lcP (fun x => (pbind tg x p).bind fun p1 => (pTs qis p1).bind fun b => if b then (q.v p1).map some else some none) xs = some ys → acc.length + ys.length ≤ sizeLine →
      ∃ o' ρ', lcLoop own (fun x ρ => bindT tg x .cold ρ) (evTs dis) (fun ρ => (d.v ρ).bind val) xs acc o ρ = some (acc ++ ys, o', ρ') ∧ Rel (wipeA own s) p ρ' ∧ (∀ y ∈ ys, hasTy ety y) ∧ okO (fs eo.isFull) o'
  | [], ys, acc, o, ρ, hR, _, ho, hp, _ => by
    cases hp
    exact ⟨o, wipeE own ρ, by simp, hR.wipe2, by simp, ho⟩
  | x :: xs, ys, acc, o, ρ, hR, hx, ho, hp, hz => by
    have e' := e
    simp only [lcA] at e'
    obtain ⟨s1, a1, e'⟩ := obind e'
    obtain ⟨s2, a2, e'⟩ := obind e'
    obtain ⟨r, a3, e'⟩ := obind e'
    obtain ⟨v, a4, e'⟩ := obind e'
    obtain ⟨s3, a5, e'⟩ := Option.map_eq_some_iff.mp e'
    simp only [Prod.mk.injEq] at e'
    obtain ⟨q1, q2, rfl⟩ := e'
    simp only [lcP] at hp
    obtain ⟨y, b1, hp⟩ := obind hp
    obtain ⟨ys', b2, b3⟩ := Option.map_eq_some_iff.mp hp
    obtain ⟨p1, b4, b1⟩ := obind b1
    obtain ⟨b, b5, b1⟩ := obind b1
    obtain ⟨ρ1, c1, h1⟩ := bind_ok (o := .cold) b4 a1 (hx x (by simp)) (by simp [okO]) hR.wipe2
    obtain ⟨ρ2, c2, h2⟩ := evTs_ok hs _ _ _ _ _ h1 a2 b5
    have agr := bind_agr htg b4
    cases b
    · simp only [Bool.false_eq_true, if_false] at b1
      cases b1
      simp only at b3
      subst b3
      have h3 : Rel (wipeA own s) p ρ2 := ((jnA_l a5 h2).agr agr).le hl
      obtain ⟨o', ρ', c3, h4⟩ := lc_ok h hs htg e hl xs ys' acc o ρ2 h3 (fun y m => hx y (by simp [m])) ho b2 hz
      exact ⟨o', ρ', by simp [lcLoop, c1, c2, c3], h4⟩
    · simp only [if_true] at b1
      obtain ⟨t, b6, b7⟩ := Option.map_eq_some_iff.mp b1
      subst b7
      simp only at b3
      subst b3
      obtain ⟨o2, ρ3, c3, h3, h4, h5⟩ := h.v _ _ _ _ _ h2 a3 b6
      obtain ⟨o3, ρ4, c4, h6, h7, h8⟩ := valA_ok h3 h5 a4
      have h9 : Rel (wipeA own s) p ρ4 := ((jnA_r a5 h6).agr agr).le hl
      have hz' : acc.length < sizeLine := by simp at hz; omega
      have ho' : okO (fs eo.isFull) (minO o o3) := minO_acc ho (q2 ▸ h7)
      obtain ⟨o', ρ', c5, h10, h11, h12⟩ := lc_ok h hs htg e hl xs ys' (acc ++ [t]) (minO o o3) ρ4 h9 (fun y m => hx y (by simp [m])) ho' b2 (by simp at hz ⊢; omega)
      refine ⟨o', ρ', by simp [lcLoop, c1, c2, c3, c4, hz', c5], h10, fun y m => ?_, h12⟩
      rcases List.mem_cons.mp m with rfl | m
      · rw [← q1, h8]; exact h4
      · exact h11 y m
end Ev
namespace Ev
open L2
open PySem (sizeLine)
def slTy : Ty → Ty
  | .lst a => .lst a
  | t => if t.isNl then .nl else .top
theorem cutT_mem {α : Type} {xs : List α} {lo hi : Option Int} {x : α} (h : x ∈ cutT xs lo hi) : x ∈ xs := List.mem_of_mem_drop (List.mem_of_mem_take h)
theorem slTy_ok {lo hi : Option Int} {ty : Ty} {t y : T} (h : hasTy ty t) (e : slV lo hi t = some y) : hasTy (slTy ty) y := by
  have nn : t.nl = true → y.nl = true := by
    intro n
    cases t <;> simp only [slV] at e <;> (try cases e) <;> simp at n
    · rfl
    · split at e
      · cases e
      · cases e
        rw [nlL_mem] at n
        exact nlL_mem.mpr fun x m => n x (cutT_mem m)
  cases ty with
  | lst a =>
    obtain ⟨xs, rfl, h'⟩ := hasTy_lst.mp h
    cases e
    exact hasTy_lst.mpr ⟨_, rfl, fun x m => h' x (cutT_mem m)⟩
  | bot => simp [hasTy] at h
  | nl => exact hasTy_nl.mpr (nn (hasTy_nl.mp h))
  | top => exact hasTy_top
  | tup as =>
    show hasTy (if (Ty.tup as).isNl then .nl else .top) y
    split
    · rename_i q; exact hasTy_nl.mpr (nn (isNl_ok q h))
    · exact hasTy_top
theorem sl_shp {lo hi : Option Int} {t y : T} (e : slV lo hi t = some y) : shp y := by
  cases t <;> simp only [slV] at e <;> (try cases e) <;> (try split at e) <;> (try cases e) <;> simp [shp]
theorem rev_shp {t y : T} (e : revV t = some y) : shp y := by
  cases t <;> simp only [revV] at e <;> (try cases e) <;> simp [shp]
def revTy : Ty → Ty
  | .lst a => .lst a
  | t => if t.isNl then .nl else .top
theorem revTy_ok {ty : Ty} {t y : T} (h : hasTy ty t) (e : revV t = some y) : hasTy (revTy ty) y := by
  cases ty with
  | lst a =>
    obtain ⟨xs, rfl, h'⟩ := hasTy_lst.mp h
    cases e
    exact hasTy_lst.mpr ⟨_, rfl, fun x m => h' x (List.mem_reverse.mp m)⟩
  | bot => simp [hasTy] at h
  | top => exact hasTy_top
  | nl =>
    have n := hasTy_nl.mp h
    cases t <;> simp only [revV] at e <;> (try cases e) <;> simp at n
    exact hasTy_nl.mpr rfl
  | tup as =>
    obtain ⟨xs, rfl, _⟩ := hasTy_tup.mp h
    simp [revV] at e
def bltTy : BF → List Ty → Ty
  | .sorted, _ => .lst .nl
  | .list, [t] => .lst (itTy t)
  | .tuple, [t] => if (itTy t).isNl then .nl else .top
  | _, _ => .nl
theorem hasTyL_1 {a : Ty} {ts : List T} (h : hasTyL [a] ts) : ∃ t, ts = [t] ∧ hasTy a t := by
  simp only [hasTyL] at h
  obtain ⟨x, xs, rfl, h1, rfl⟩ := h
  exact ⟨x, rfl, h1⟩
theorem blt_shp {f : BF} {ts : List T} {y : T} (e : bltV f ts = some y) : shp y := by
  have key : ∀ {α : Type} {x : Option α} {g : α → T}, (∀ a, shp (g a)) → x.map g = some y → shp y := by
    intro α x g hg e
    obtain ⟨a, _, rfl⟩ := Option.map_eq_some_iff.mp e
    exact hg a
  unfold bltV at e
  split at e
  all_goals first
    | (cases e; done)
    | (cases e; simp [shp]; done)
    | exact key (fun _ => by simp [shp]) e
    | (obtain ⟨ns, _, e⟩ := obind e; split at e <;> cases e <;> simp [shp])
theorem bltTy_ok {f : BF} {tys : List Ty} {ts : List T} {y : T} (h : hasTyL tys ts) (e : bltV f ts = some y) : hasTy (bltTy f tys) y := by
  have key : ∀ {α : Type} {x : Option α} {g : α → T}, (∀ a, (g a).nl = true) → x.map g = some y → hasTy .nl y := by
    intro α x g hg e
    obtain ⟨a, _, rfl⟩ := Option.map_eq_some_iff.mp e
    exact hasTy_nl.mpr (hg a)
  have key2 : ∀ {x : Option (List Int)} {g : List Int → Int}, (x.bind fun ns => if ns.length = 0 then none else some (T.int (g ns))) = some y → hasTy .nl y := by
    intro x g e
    obtain ⟨ns, _, e⟩ := obind e
    split at e
    · cases e
    · cases e; simp [hasTy]
  unfold bltV at e
  split at e
  all_goals try (cases e; exact hasTy_nl.mpr rfl)
  all_goals try exact key (fun _ => rfl) e
  all_goals try exact key2 e
  all_goals try cases e
  · rename_i xs
    cases tys with
    | nil => simp [hasTyL] at h
    | cons a as =>
      have h' := h
      simp only [hasTyL] at h'
      obtain ⟨x, xs', q, h1, h2⟩ := h'
      cases q
      cases as with
      | cons _ _ => simp [hasTyL] at h2
      | nil => exact hasTy_lst.mpr ⟨_, rfl, itTy_ok h1 rfl⟩
  · rename_i xs
    cases tys with
    | nil => simp [hasTyL] at h
    | cons a as =>
      have h' := h
      simp only [hasTyL] at h'
      obtain ⟨x, xs', q, h1, h2⟩ := h'
      cases q
      cases as with
      | cons _ _ => simp [hasTyL] at h2
      | nil => exact hasTy_lst.mpr ⟨_, rfl, itTy_ok h1 rfl⟩
  · rename_i xs
    cases tys with
    | nil => simp [hasTyL] at h
    | cons a as =>
      have h' := h
      simp only [hasTyL] at h'
      obtain ⟨x, xs', q, h1, h2⟩ := h'
      cases q
      cases as with
      | cons _ _ => simp [hasTyL] at h2
      | nil =>
        show hasTy (if (itTy a).isNl then .nl else .top) _
        split
        · rename_i hn
          exact hasTy_nl.mpr (nlL_mem.mpr fun x m => isNl_ok hn (itTy_ok h1 rfl x m))
        · exact hasTy_top
  · obtain ⟨ns, _, q⟩ := Option.map_eq_some_iff.mp e
    subst q
    show hasTy (.lst .nl) _
    refine hasTy_lst.mpr ⟨_, rfl, fun x m => ?_⟩
    obtain ⟨i, _, rfl⟩ := List.mem_map.mp m
    exact hasTy_nl.mpr rfl
theorem meth_nl {f : MF} {t y : T} {ts : List T} (e : methV f t ts = some y) : y.nl = true := by
  unfold methV at e
  split at e
  · split at e
    · obtain ⟨_, _, rfl⟩ := Option.map_eq_some_iff.mp e; rfl
    · cases e
  · obtain ⟨_, _, rfl⟩ := Option.map_eq_some_iff.mp e; rfl
  · obtain ⟨ss, _, e⟩ := obind e
    split at e
    · cases e; rfl
    · cases e
  · cases e
def litE : E → Option Nat
  | .int i => if 0 ≤ i then some i.toNat else none
  | _ => none
def ixTy : Ty → Option Nat → Ty
  | .lst a, _ => a
  | .tup as, some n => as.getD n .top
  | .tup as, none => jnL as
  | t, _ => if t.isNl then .nl else .top
theorem atI_mem {α : Type} {xs : List α} {i : Int} {z : α} (h : atI xs i = some z) : z ∈ xs := by
  unfold atI at h
  obtain ⟨n, _, h⟩ := obind h
  exact List.mem_of_getElem? h
theorem ixTy_ok {ty : Ty} {t y z : T} {k : Option Nat} (h : hasTy ty t) (hk : ∀ n, k = some n → y = .int n) (e : ixV t y = some z) : hasTy (ixTy ty k) z := by
  have nn : t.nl = true → z.nl = true := by
    intro n
    cases t <;> cases y <;> simp only [ixV] at e <;> (try cases e) <;> simp at n
    · obtain ⟨c, _, rfl⟩ := Option.map_eq_some_iff.mp e; rfl
    · exact nlL_mem.mp n _ (atI_mem e)
  cases ty with
  | bot => simp [hasTy] at h
  | nl => cases k <;> exact hasTy_nl.mpr (nn (hasTy_nl.mp h))
  | top => cases k <;> exact hasTy_top
  | lst a =>
    obtain ⟨xs, rfl, h'⟩ := hasTy_lst.mp h
    cases y <;> simp only [ixV] at e <;> (try cases e)
    exact h' _ (atI_mem e)
  | tup as =>
    obtain ⟨xs, rfl, h'⟩ := hasTy_tup.mp h
    cases y <;> simp only [ixV] at e <;> (try cases e)
    cases k with
    | none => exact jnL_ok h' _ (atI_mem e)
    | some n =>
      have := hk n rfl
      cases this
      rw [atI_ofNat] at e
      obtain ⟨a, q1, q2⟩ := hasTyL_get h' e
      show hasTy (as.getD n .top) z
      rw [List.getD_eq_getElem?_getD, q1]
      exact q2
def joinAO (a b : AO) : AO := if AO.le a b then b else a
theorem joinAO_l {a b : AO} {o : Own} (h : okO a o) : okO (joinAO a b) o := by
  unfold joinAO; split
  · rename_i e; exact okO_le e h
  · exact h
theorem joinAO_r {a b : AO} {o : Own} (h : okO b o) : okO (joinAO a b) o := by
  unfold joinAO; split
  · exact h
  · rename_i e; exact okO_le (by cases a <;> cases b <;> simp [AO.le] at e ⊢) h
def nlR (r : AR) : Option AE := if r.ty.isNl then match r.o with
  | .own .full => some r.s
  | _ => none
  else none
theorem nlR_ok {r : AR} {s : AE} {t : T} {o : Own} {p : PE} (e : nlR r = some s) (h : hasTy r.ty t) (k : VR r.o t o p) : s = r.s ∧ t.nl = true ∧ o = .full := by
  unfold nlR at e
  split at e
  · rename_i hn
    split at e
    · rename_i ho
      cases e
      rw [ho] at k
      exact ⟨rfl, isNl_ok hn h, k⟩
    · cases e
  · cases e
def aAndV : List AD → AE → Option AE
  | [], _ => none
  | [d], s => (d.v s).bind nlR
  | d :: ds, s => (d.v s).bind fun r => (aAndV ds r.s).bind fun s2 => jnA r.s s2
def aAndT : List AD → AE → Option AE
  | [], _ => none
  | [d], s => d.t s
  | d :: ds, s => (d.t s).bind fun s1 => (aAndT ds s1).bind fun s2 => jnA s1 s2
theorem and_ok {ds qs as} (h : OKs ds qs as) : ∀ {s p ρ s' t}, Rel s p ρ → aAndV as s = some s' → pAndV qs p = some t → ∃ ρ', andVals ds ρ = some ⟨t, .full, ρ'⟩ ∧ Rel s' p ρ' ∧ t.nl = true := by
  induction h with
  | nil => intro s p ρ s' t _ e; simp [aAndV] at e
  | cons h hs ih =>
    intro s p ρ s' t hR e1 e2
    cases hs with
    | nil =>
      obtain ⟨r, a1, a2⟩ := obind (show (_ : Option AR).bind nlR = some s' from e1)
      obtain ⟨o, ρ', c, h1, h2, h3⟩ := h.v _ _ _ _ _ hR a1 e2
      obtain ⟨rfl, q1, rfl⟩ := nlR_ok a2 h2 h3
      exact ⟨ρ', c, h1, q1⟩
    | cons g gs =>
      simp only [aAndV] at e1
      obtain ⟨r, a1, e1⟩ := obind e1
      obtain ⟨s2, a2, a3⟩ := obind e1
      simp only [pAndV] at e2
      obtain ⟨b, b1, e2⟩ := obind e2
      obtain ⟨o, ρ', c, h1, h2, h3⟩ := h.v _ _ _ _ _ hR a1 b1
      split at e2
      · obtain ⟨ρ2, c2, h4, h5⟩ := ih h1 a2 e2
        exact ⟨ρ2, by simp only [andVals, c, Option.bind_some]; exact c2, jnA_r a3 h4, h5⟩
      · cases e2
        exact ⟨ρ', by simp only [andVals, c, Option.bind_some], jnA_l a3 h1, rfl⟩
      · cases e2
theorem or_ok {ds qs as} (h : OKs ds qs as) : ∀ {s p ρ s' t}, Rel s p ρ → aAndV as s = some s' → pOrV qs p = some t → ∃ ρ', orVals ds ρ = some ⟨t, .full, ρ'⟩ ∧ Rel s' p ρ' ∧ t.nl = true := by
  induction h with
  | nil => intro s p ρ s' t _ e; simp [aAndV] at e
  | cons h hs ih =>
    intro s p ρ s' t hR e1 e2
    cases hs with
    | nil =>
      obtain ⟨r, a1, a2⟩ := obind (show (_ : Option AR).bind nlR = some s' from e1)
      obtain ⟨o, ρ', c, h1, h2, h3⟩ := h.v _ _ _ _ _ hR a1 e2
      obtain ⟨rfl, q1, rfl⟩ := nlR_ok a2 h2 h3
      exact ⟨ρ', c, h1, q1⟩
    | cons g gs =>
      simp only [aAndV] at e1
      obtain ⟨r, a1, e1⟩ := obind e1
      obtain ⟨s2, a2, a3⟩ := obind e1
      simp only [pOrV] at e2
      obtain ⟨b, b1, e2⟩ := obind e2
      obtain ⟨o, ρ', c, h1, h2, h3⟩ := h.v _ _ _ _ _ hR a1 b1
      split at e2
      · obtain ⟨ρ2, c2, h4, h5⟩ := ih h1 a2 e2
        exact ⟨ρ2, by simp only [orVals, c, Option.bind_some]; exact c2, jnA_r a3 h4, h5⟩
      · cases e2
        exact ⟨ρ', by simp only [orVals, c, Option.bind_some], jnA_l a3 h1, rfl⟩
      · cases e2
theorem andT_ok {ds qs as} (h : OKs ds qs as) : TOK (andTs ds) (pAndT qs) (aAndT as) := by
  induction h with
  | nil => intro s p ρ s' t _ e; simp [aAndT] at e
  | cons h hs ih =>
    intro s p ρ s' t hR e1 e2
    cases hs with
    | nil => exact h.t _ _ _ _ _ hR e1 e2
    | cons g gs =>
      simp only [aAndT] at e1
      obtain ⟨s1, a1, e1⟩ := obind e1
      obtain ⟨s2, a2, a3⟩ := obind e1
      simp only [pAndT] at e2
      obtain ⟨b, b1, e2⟩ := obind e2
      obtain ⟨ρ', c, h1⟩ := h.t _ _ _ _ _ hR a1 b1
      split at e2
      · rename_i hb
        obtain ⟨ρ2, c2, h4⟩ := ih _ _ _ _ _ h1 a2 e2
        exact ⟨ρ2, by simp only [andTs, c, Option.bind_some, hb, if_true]; exact c2, jnA_r a3 h4⟩
      · rename_i hb
        cases e2
        exact ⟨ρ', by simp [andTs, c, hb], jnA_l a3 h1⟩
theorem orT_ok {ds qs as} (h : OKs ds qs as) : TOK (orTs ds) (pOrT qs) (aAndT as) := by
  induction h with
  | nil => intro s p ρ s' t _ e; simp [aAndT] at e
  | cons h hs ih =>
    intro s p ρ s' t hR e1 e2
    cases hs with
    | nil => exact h.t _ _ _ _ _ hR e1 e2
    | cons g gs =>
      simp only [aAndT] at e1
      obtain ⟨s1, a1, e1⟩ := obind e1
      obtain ⟨s2, a2, a3⟩ := obind e1
      simp only [pOrT] at e2
      obtain ⟨b, b1, e2⟩ := obind e2
      obtain ⟨ρ', c, h1⟩ := h.t _ _ _ _ _ hR a1 b1
      split at e2
      · rename_i hb
        cases e2
        exact ⟨ρ', by simp [orTs, c, hb], jnA_l a3 h1⟩
      · rename_i hb
        obtain ⟨ρ2, c2, h4⟩ := ih _ _ _ _ _ h1 a2 e2
        exact ⟨ρ2, by simp only [orTs, c, Option.bind_some]; simpa [hb] using c2, jnA_r a3 h4⟩
def aO : List AD → AE → Option AE
  | [], s => some s
  | [d], s => (d.v s).map (·.s)
  | _, _ => none
theorem evO_ok {ds qs as} (h : OKs ds qs as) : ∀ {s p ρ s' x}, Rel s p ρ → aO as s = some s' → pO qs p = some x → ∃ ρ', evO ds ρ = some (x, ρ') ∧ Rel s' p ρ' := by
  intro s p ρ s' x hR e1 e2
  cases h with
  | nil => cases e1; cases e2; exact ⟨ρ, rfl, hR⟩
  | cons h hs =>
    cases hs with
    | cons _ _ => simp [aO] at e1
    | nil =>
      obtain ⟨r, a1, rfl⟩ := Option.map_eq_some_iff.mp (show Option.map _ _ = _ from e1)
      obtain ⟨t, b1, b2⟩ := obind (show Option.bind _ _ = _ from e2)
      obtain ⟨i, b3, rfl⟩ := Option.map_eq_some_iff.mp b2
      obtain ⟨o, ρ', c, h1, h2, h3⟩ := h.v _ _ _ _ _ hR a1 b1
      cases t <;> simp [intT] at b3
      subst b3
      exact ⟨ρ', by simp [c], h1⟩
def aIs : List AD → AE → Option AE
  | [], s => some s
  | d :: ds, s => (d.v s).bind fun r => aIs ds r.s
theorem evIs_ok {ds qs as} (h : OKs ds qs as) : ∀ {s p ρ s' x}, Rel s p ρ → aIs as s = some s' → pIs qs p = some x → ∃ ρ', evIs ds ρ = some (x, ρ') ∧ Rel s' p ρ' := by
  induction h with
  | nil => intro s p ρ s' x hR e1 e2; cases e1; cases e2; exact ⟨ρ, rfl, hR⟩
  | cons h hs ih =>
    intro s p ρ s' x hR e1 e2
    simp only [aIs] at e1
    obtain ⟨r, a1, e1⟩ := obind e1
    simp only [pIs] at e2
    obtain ⟨t, b1, e2⟩ := obind e2
    obtain ⟨i, b3, e2⟩ := obind e2
    obtain ⟨y, b4, rfl⟩ := Option.map_eq_some_iff.mp e2
    obtain ⟨o, ρ', c, h1, h2, h3⟩ := h.v _ _ _ _ _ hR a1 b1
    cases t <;> simp [intT] at b3
    subst b3
    obtain ⟨ρ2, c2, h4⟩ := ih h1 e1 b4
    exact ⟨ρ2, by simp [evIs, c, c2], h4⟩
theorem rng_nl {ts xs : List T} (e : rngV ts = some xs) : ∀ x ∈ xs, hasTy .nl x := by
  have key : ∀ {α : Type} {l : List α} {g : α → Int}, ∀ x ∈ l.map fun a => T.int (g a), hasTy .nl x := by
    intro α l g x m
    obtain ⟨a, _, rfl⟩ := List.mem_map.mp m
    exact hasTy_nl.mpr rfl
  unfold rngV at e
  split at e <;> (try cases e) <;> split at e <;> cases e <;> exact key
def liveA (i : Nat) (s : AE) : Bool := match s[i]? with
  | some (some _) => true
  | _ => false
theorem liveA_ok {i : Nat} {s : AE} {p : PE} {ρ : Env} {t : T} (h : liveA i s = true) (hR : Rel s p ρ) (hp : pget p i = some t) : ∃ o, ρ[i]? = some (some (t, o)) := by
  unfold liveA at h
  split at h
  · rename_i x e
    obtain ⟨_, o, r, _⟩ := hR.at_ _ _ _ _ e (pget_some.mp hp)
    exact ⟨o, r⟩
  · cases h
theorem OKs.app {ds qs as ds' qs' as'} (h : OKs ds qs as) (h' : OKs ds' qs' as') : OKs (ds ++ ds') (qs ++ qs') (as ++ as') := by
  induction h with
  | nil => exact h'
  | cons h _ ih => exact .cons h ih
theorem OKs.rev {ds qs as} (h : OKs ds qs as) : OKs ds.reverse qs.reverse as.reverse := by
  induction h with
  | nil => exact .nil
  | cons h _ ih =>
    rw [List.reverse_cons, List.reverse_cons, List.reverse_cons]
    exact ih.app (.cons h .nil)
abbrev Sig := List Nat → Option (List Ty × Ty × AO)
def acall (g : List Ty × Ty × AO) (es : List AD) (s : AE) : Option AR := (aVs es s).bind fun x => if leL x.1 g.1 then (reLA x.2.1 x.2.2).map fun s' => ⟨g.2.1, .own g.2.2, if g.2.2.isFull then x.2.2 else s'⟩ else none
def ablt (f : BF) (es : List AD) (s : AE) : Option AR := (aVs es s).bind fun x => match x.2.1 with
  | [v] => sh1A (bltTy f x.1) v x.2.2
  | _ => if (bltTy f x.1).isNl then some ⟨bltTy f x.1, .own .full, x.2.2⟩ else none
/-- what a table of defs is known to answer -/
structure CallOk (G : List Nat → Option T) (sig : Sig) (C : List Nat → List T → Option (T × Own)) (PC : List Nat → List T → Option T) : Prop where
  call : ∀ f g ts y, sig f = some g → hasTyL g.1 ts → PC f ts = some y → ∃ o, C f ts = some (y, o) ∧ okO g.2.2 o ∧ hasTy g.2.1 y
section
variable (G : List Nat → Option T) (sig : Sig)
mutual
def aden : E → AD
  | .int i => aV false fun s => some ⟨.nl, .own .full, s⟩
  | .bl b => aV false fun s => some ⟨.nl, .own .full, s⟩
  | .non => aV false fun s => some ⟨.nl, .own .full, s⟩
  | .str x => aV false fun s => some ⟨.nl, .own .full, s⟩
  | .var i => aV false (avar i)
  | .mov i => aV false (amov i)
  | .glob x => aV false fun s => (G x).map fun t => ⟨tyC t, .own (if t.nl then .full else .cold), s⟩
  | .bin op a b => aV ((aden a).c || (aden b).c) fun s => ((aden a).v s).bind fun r0 => (voA (aden b).c r0).bind fun ra => ((aden b).v ra.s).bind fun rb => if repA op ra.ty ra.o then bin2A op ra.ty ra.o rb.ty rb.o rb.s else none
  | .neg a => aV (aden a).c fun s => ((aden a).v s).map fun r => ⟨.nl, .own .full, r.s⟩
  | .notv a => ⟨(aden a).c, fun s => ((aden a).v s).map fun r => ⟨.nl, .own .full, r.s⟩, (aden a).t, aI fun s => ((aden a).v s).map fun r => ⟨.nl, .own .full, r.s⟩⟩
  | .cmp op a b => aV ((aden a).c || (aden b).c) fun s => ((aden a).v s).bind fun r0 => (voA (aden b).c r0).bind fun ra => ((aden b).v ra.s).map fun rb => ⟨.nl, .own .full, rb.s⟩
  | .chain op op' a b c => aV ((aden a).c || ((aden b).c || (aden c).c)) fun s => ((aden a).v s).bind fun r0 => (voA ((aden b).c || (aden c).c) r0).bind fun ra => ((aden b).v ra.s).bind fun r1 => (voA (aden c).c r1).bind fun rb => ((aden c).v rb.s).bind fun rc => (jnA rb.s rc.s).map fun s' => ⟨.nl, .own .full, s'⟩
  | .andv es => ⟨anyA (adenL es), fun s => (aAndV (adenL es) s).map fun s' => ⟨.nl, .own .full, s'⟩, aAndT (adenL es), aI fun s => (aAndV (adenL es) s).map fun s' => ⟨.nl, .own .full, s'⟩⟩
  | .orv es => ⟨anyA (adenL es), fun s => (aAndV (adenL es) s).map fun s' => ⟨.nl, .own .full, s'⟩, aAndT (adenL es), aI fun s => (aAndV (adenL es) s).map fun s' => ⟨.nl, .own .full, s'⟩⟩
  | .ife c a b => ⟨(aden c).c || ((aden a).c || (aden b).c), fun s => ((aden c).t s).bind fun s1 => ((aden a).v s1).bind fun r1 => (valA r1).bind fun x => ((aden b).v s1).bind fun r2 => (valA r2).bind fun y => (jnA x.2.2 y.2.2).map fun s' => ⟨jn x.1 y.1, .own (joinAO x.2.1 y.2.1), s'⟩, fun _ => none, aI fun s => ((aden c).t s).bind fun s1 => ((aden a).v s1).bind fun r1 => (valA r1).bind fun x => ((aden b).v s1).bind fun r2 => (valA r2).bind fun y => (jnA x.2.2 y.2.2).map fun s' => ⟨jn x.1 y.1, .own (joinAO x.2.1 y.2.1), s'⟩⟩
  | .tup es => aV (anyA (adenL es)) fun s => (aLs (adenL es) s).map fun x => ⟨.tup x.1, .own (if isNlL x.1 then .full else kidA (fs x.2.1)), x.2.2⟩
  | .lst es => aV (anyA (adenL es)) fun s => (aLs (adenL es) s).map fun x => ⟨.lst (jnL x.1), .own (fs x.2.1), x.2.2⟩
  | .ix a i => aV ((aden a).c || (aden i).c) fun s => ((aden a).v s).bind fun r0 => (voA (aden i).c r0).bind fun ra => ((aden i).v ra.s).bind fun ri => if (ixTy ra.ty (litE i)).isNl then some ⟨ixTy ra.ty (litE i), .own .full, ri.s⟩ else (reA ra.o ri.s).map fun s' => ⟨ixTy ra.ty (litE i), .own .cold, s'⟩
  | .sl a lo hi => aV ((aden a).c || (anyA (adenL lo) || anyA (adenL hi))) fun s => ((aden a).v s).bind fun r0 => (voA (anyA (adenL lo) || anyA (adenL hi)) r0).bind fun ra => (aO (adenL lo) ra.s).bind fun s1 => (aO (adenL hi) s1).bind fun s2 => sh1A (slTy ra.ty) ra.o s2
  | .rev a => aV (aden a).c fun s => ((aden a).v s).bind fun ra => sh1A (revTy ra.ty) ra.o ra.s
  | .call f es => aV (anyA (adenL es)) fun s => (sig f).bind fun g => acall g (adenL es) s
  | .blt f es => aV (anyA (adenL es)) fun s => ablt f (adenL es) s
  | .isi a c => aV (aden a).c fun s => ((aden a).v s).map fun r => ⟨.nl, .own .full, r.s⟩
  | .meth f a es => aV ((aden a).c || anyA (adenL es)) fun s => ((aden a).v s).bind fun r0 => (voA (anyA (adenL es)) r0).bind fun ra => (aVs (adenL es) ra.s).map fun x => ⟨.nl, .own .full, x.2.2⟩
  | .lc elt tg it ifs own => aV true fun s => if tgOk own tg then ((aden it).i s).bind fun x => (fixL own tg x.1 (adenL ifs) (aden elt) 9 x.2).bind fun y => if leA x.2 y.2.2 || leA (wipeA own x.2) (wipeA own y.2.2) then some ⟨.lst y.1, .own (fs y.2.1.isFull), backA x.2 own (wipeA own y.2.2)⟩ else none else none
  | .lc2 _ _ _ _ _ _ _ _ _ => aV true fun _ => none
  | .rng es => ⟨anyA (adenL es), fun _ => none, fun _ => none, fun s => (aVs (adenL es) s).map fun x => (.nl, x.2.2)⟩
  | .zip a b => ⟨(aden a).c || (aden b).c, fun _ => none, fun _ => none, fun s => ((aden a).v s).bind fun r0 => (voA (aden b).c r0).bind fun ra => ((aden b).v ra.s).bind fun rb => (reA ra.o rb.s).bind fun s1 => (reA rb.o s1).map fun s2 => (.tup [itTy ra.ty, itTy rb.ty], s2)⟩
  | .enum a => ⟨(aden a).c, fun _ => none, fun _ => none, fun s => ((aden a).v s).bind fun ra => (reA ra.o ra.s).map fun s1 => (.tup [.nl, itTy ra.ty], s1)⟩
  | .revd a => ⟨(aden a).c, fun _ => none, fun _ => none, fun s => ((aden a).v s).bind fun ra => (reA ra.o ra.s).map fun s1 => (itTy ra.ty, s1)⟩
  | .pth i kr => aV (anyA (adenL kr)) fun s => if liveA i s then (aIs (adenL kr).reverse s).map fun _ => ⟨.nl, .own .full, s⟩ else none
def adenL : List E → List AD
  | [] => []
  | e :: es => aden e :: adenL es
end
end
section
variable {d d1 d2 d3 : Den} {q q1 q2 q3 : PD} {a a1 a2 a3 : AD} {ds : List Den} {qs : List PD} {as : List AD}
theorem vok_none {dd : Env → Option R} {qq : PE → Option T} : VOK dd qq (fun _ => none) := fun _ _ _ _ _ _ e => by cases e
theorem vok_nlmap {g : T → Option T} (hg : ∀ x y, g x = some y → y.nl = true) (h : OK d q a) : VOK (fun ρ => (d.v ρ).bind fun r => (g r.t).map fun y => ⟨y, .full, r.ρ⟩) (fun p => (q.v p).bind g) (fun s => (a.v s).map fun r => ⟨.nl, .own .full, r.s⟩) := by
  intro s p ρ r t hR e1 e2
  obtain ⟨r1, b1, rfl⟩ := Option.map_eq_some_iff.mp e1
  obtain ⟨x, b2, b3⟩ := obind e2
  obtain ⟨o, ρ', c, h1, h2, h3⟩ := h.v _ _ _ _ _ hR b1 b2
  exact ⟨.full, ρ', by simp [c, b3], h1, hasTy_nl.mpr (hg _ _ b3), rfl⟩
theorem vok_bin {op : BO} (h1 : OK d1 q1 a1) (h2 : OK d2 q2 a2) : VOK (fun ρ => (d1.v ρ).bind fun r0 => (vo d2.c r0).bind fun ra => (d2.v ra.ρ).bind fun rb => if repOk op ra.t ra.o then binR op ra.t ra.o rb.t rb.o rb.ρ else none)
    (fun p => (q1.v p).bind fun x => (q2.v p).bind fun y => binV op x y)
    (fun s => (a1.v s).bind fun r0 => (voA a2.c r0).bind fun ra => (a2.v ra.s).bind fun rb => if repA op ra.ty ra.o then bin2A op ra.ty ra.o rb.ty rb.o rb.s else none) := by
  intro s p ρ r t hR e1 e2
  obtain ⟨r0, b1, e1⟩ := obind e1
  obtain ⟨ra, b2, e1⟩ := obind e1
  obtain ⟨rb, b3, e1⟩ := obind e1
  obtain ⟨x, b4, e2⟩ := obind e2
  obtain ⟨y, b5, e2⟩ := obind e2
  obtain ⟨o, ρ1, c1, k1, k2, k3⟩ := h1.v _ _ _ _ _ hR b1 b4
  obtain ⟨o', ρ2, c2, k4, k5, k6⟩ := voA_ok k1 k3 b2
  obtain ⟨o2, ρ3, c3, k7, k8, k9⟩ := h2.v _ _ _ _ _ k4 b3 b5
  rw [← k6] at k2
  split at e1
  · rename_i hr
    obtain ⟨o3, ρ4, c4, m1, m2, m3⟩ := bin2_ok k7 k5 k9 k2 k8 e2 e1
    have := repA_ok hr k2 k5
    exact ⟨o3, ρ4, by simp only [c1, Option.bind_some, h2.c, c2, c3, this, if_true]; exact c4, m1, m2, m3⟩
  · cases e1
theorem vok_cmp {op : CO} (h1 : OK d1 q1 a1) (h2 : OK d2 q2 a2) : VOK (fun ρ => (d1.v ρ).bind fun r0 => (vo d2.c r0).bind fun ra => (d2.v ra.ρ).bind fun rb => (cmpV op ra.t rb.t).map fun k => ⟨.bl k, .full, rb.ρ⟩)
    (fun p => (q1.v p).bind fun x => (q2.v p).bind fun y => (cmpV op x y).map .bl)
    (fun s => (a1.v s).bind fun r0 => (voA a2.c r0).bind fun ra => (a2.v ra.s).map fun rb => ⟨.nl, .own .full, rb.s⟩) := by
  intro s p ρ r t hR e1 e2
  obtain ⟨r0, b1, e1⟩ := obind e1
  obtain ⟨ra, b2, e1⟩ := obind e1
  obtain ⟨rb, b3, e3⟩ := Option.map_eq_some_iff.mp e1
  subst e3
  obtain ⟨x, b4, e2⟩ := obind e2
  obtain ⟨y, b5, e2⟩ := obind e2
  obtain ⟨k, b6, rfl⟩ := Option.map_eq_some_iff.mp e2
  obtain ⟨o, ρ1, c1, k1, k2, k3⟩ := h1.v _ _ _ _ _ hR b1 b4
  obtain ⟨o', ρ2, c2, k4, k5, k6⟩ := voA_ok k1 k3 b2
  obtain ⟨o2, ρ3, c3, k7, k8, k9⟩ := h2.v _ _ _ _ _ k4 b3 b5
  exact ⟨.full, ρ3, by simp [c1, h2.c, c2, c3, b6], k7, hasTy_nl.mpr rfl, rfl⟩
theorem vok_chain {op op' : CO} (h1 : OK d1 q1 a1) (h2 : OK d2 q2 a2) (h3 : OK d3 q3 a3) : VOK (fun ρ => (d1.v ρ).bind fun r0 => (vo (d2.c || d3.c) r0).bind fun ra => (d2.v ra.ρ).bind fun r1 => (vo d3.c r1).bind fun rb => (cmpV op ra.t rb.t).bind fun k =>
      if k then (d3.v rb.ρ).bind fun rc => (cmpV op' rb.t rc.t).map fun k' => ⟨.bl k', .full, rc.ρ⟩ else some ⟨.bl false, .full, rb.ρ⟩)
    (fun p => (q1.v p).bind fun x => (q2.v p).bind fun y => (cmpV op x y).bind fun k => if k then (q3.v p).bind fun z => (cmpV op' y z).map .bl else some (.bl false))
    (fun s => (a1.v s).bind fun r0 => (voA (a2.c || a3.c) r0).bind fun ra => (a2.v ra.s).bind fun r1 => (voA a3.c r1).bind fun rb => (a3.v rb.s).bind fun rc => (jnA rb.s rc.s).map fun s' => ⟨.nl, .own .full, s'⟩) := by
  intro s p ρ r t hR e1 e2
  obtain ⟨r0, b1, e1⟩ := obind e1
  obtain ⟨ra, b2, e1⟩ := obind e1
  obtain ⟨r1, b3, e1⟩ := obind e1
  obtain ⟨rb, b7, e1⟩ := obind e1
  obtain ⟨rc, b8, e1⟩ := obind e1
  obtain ⟨s9, b9, e3⟩ := Option.map_eq_some_iff.mp e1
  subst e3
  obtain ⟨x, b4, e2⟩ := obind e2
  obtain ⟨y, b5, e2⟩ := obind e2
  obtain ⟨k, b6, e2⟩ := obind e2
  obtain ⟨o, ρ1, c1, k1, k2, k3⟩ := h1.v _ _ _ _ _ hR b1 b4
  obtain ⟨o', ρ2, c2, k4, k5, k6⟩ := voA_ok k1 k3 b2
  obtain ⟨o2, ρ3, c3, k7, k8, k9⟩ := h2.v _ _ _ _ _ k4 b3 b5
  obtain ⟨o3, ρ4, c4, l1, l2, l3⟩ := voA_ok k7 k9 b7
  split at e2
  · rename_i hk
    obtain ⟨z, b10, e2⟩ := obind e2
    obtain ⟨k', b11, rfl⟩ := Option.map_eq_some_iff.mp e2
    obtain ⟨o4, ρ5, c5, l4, l5, l6⟩ := h3.v _ _ _ _ _ l1 b8 b10
    exact ⟨.full, ρ5, by simp [c1, h2.c, h3.c, c2, c3, c4, b6, hk, c5, b11], jnA_r b9 l4, hasTy_nl.mpr rfl, rfl⟩
  · rename_i hk
    cases e2
    exact ⟨.full, ρ4, by simp [c1, h2.c, h3.c, c2, c3, c4, b6, hk], jnA_l b9 l1, hasTy_nl.mpr rfl, rfl⟩
theorem vok_and (h : OKs ds qs as) : VOK (andVals ds) (pAndV qs) (fun s => (aAndV as s).map fun s' => ⟨.nl, .own .full, s'⟩) := by
  intro s p ρ r t hR e1 e2
  obtain ⟨s', b1, rfl⟩ := Option.map_eq_some_iff.mp e1
  obtain ⟨ρ', c, h1, h2⟩ := and_ok h hR b1 e2
  exact ⟨.full, ρ', c, h1, hasTy_nl.mpr h2, rfl⟩
theorem vok_or (h : OKs ds qs as) : VOK (orVals ds) (pOrV qs) (fun s => (aAndV as s).map fun s' => ⟨.nl, .own .full, s'⟩) := by
  intro s p ρ r t hR e1 e2
  obtain ⟨s', b1, rfl⟩ := Option.map_eq_some_iff.mp e1
  obtain ⟨ρ', c, h1, h2⟩ := or_ok h hR b1 e2
  exact ⟨.full, ρ', c, h1, hasTy_nl.mpr h2, rfl⟩
theorem vok_ife (h1 : OK d1 q1 a1) (h2 : OK d2 q2 a2) (h3 : OK d3 q3 a3) : VOK (fun ρ => (d1.t ρ).bind fun k => if k.1 then (d2.v k.2).bind val else (d3.v k.2).bind val)
    (fun p => (q1.t p).bind fun k => if k then q2.v p else q3.v p)
    (fun s => (a1.t s).bind fun s1 => (a2.v s1).bind fun r1 => (valA r1).bind fun x => (a3.v s1).bind fun r2 => (valA r2).bind fun y => (jnA x.2.2 y.2.2).map fun s' => ⟨jn x.1 y.1, .own (joinAO x.2.1 y.2.1), s'⟩) := by
  intro s p ρ r t hR e1 e2
  obtain ⟨s1, b1, e1⟩ := obind e1
  obtain ⟨r1, b2, e1⟩ := obind e1
  obtain ⟨x, b3, e1⟩ := obind e1
  obtain ⟨r2, b4, e1⟩ := obind e1
  obtain ⟨y, b5, e1⟩ := obind e1
  obtain ⟨s', b6, e3⟩ := Option.map_eq_some_iff.mp e1
  subst e3
  obtain ⟨k, b7, e2⟩ := obind e2
  obtain ⟨ρ1, c1, k1⟩ := h1.t _ _ _ _ _ hR b1 b7
  split at e2
  · rename_i hk
    obtain ⟨o, ρ2, c2, k2, k3, k4⟩ := h2.v _ _ _ _ _ k1 b2 e2
    obtain ⟨o', ρ3, c3, k5, k6, k7⟩ := valA_ok k2 k4 b3
    exact ⟨o', ρ3, by simp [c1, hk, c2, c3], jnA_l b6 k5, jn_l (k7 ▸ k3), joinAO_l k6⟩
  · rename_i hk
    obtain ⟨o, ρ2, c2, k2, k3, k4⟩ := h3.v _ _ _ _ _ k1 b4 e2
    obtain ⟨o', ρ3, c3, k5, k6, k7⟩ := valA_ok k2 k4 b5
    exact ⟨o', ρ3, by simp [c1, hk, c2, c3], jnA_r b6 k5, jn_r (k7 ▸ k3), joinAO_r k6⟩
theorem vok_tup (h : OKs ds qs as) : VOK (fun ρ => (evL ds ρ).bind fun x => if x.1.length ≤ sizeLine then some (mk (.tup x.1) (kidO x.2.1) x.2.2) else none) (fun p => (pL qs p).bind tupV) (fun s => (aLs as s).map fun x => ⟨.tup x.1, .own (if isNlL x.1 then .full else kidA (fs x.2.1)), x.2.2⟩) := by
  intro s p ρ r t hR e1 e2
  obtain ⟨x, b1, rfl⟩ := Option.map_eq_some_iff.mp e1
  obtain ⟨ts, b2, e2⟩ := obind e2
  obtain ⟨o, ρ', c, h1, h2, h3⟩ := evL_ok h hR b1 b2
  unfold tupV at e2
  split at e2
  · rename_i hz
    cases e2
    cases hn : nlL ts
    · refine ⟨kidO o, ρ', by simp [c, hz, mk, hn], h1, hasTy_tup.mpr ⟨ts, rfl, h2⟩, ?_⟩
      cases hm : isNlL x.1
      · simp only [VR, hm]; exact kidA_ok h3
      · rw [isNlL_ok hm h2] at hn; cases hn
    · refine ⟨.full, ρ', by simp [c, hz, mk, hn], h1, hasTy_tup.mpr ⟨ts, rfl, h2⟩, okO_full⟩
  · cases e2
theorem vok_lst (h : OKs ds qs as) : VOK (fun ρ => (evL ds ρ).bind fun x => if x.1.length ≤ sizeLine then some ⟨.lst x.1, x.2.1, x.2.2⟩ else none) (fun p => (pL qs p).bind lstV) (fun s => (aLs as s).map fun x => ⟨.lst (jnL x.1), .own (fs x.2.1), x.2.2⟩) := by
  intro s p ρ r t hR e1 e2
  obtain ⟨x, b1, rfl⟩ := Option.map_eq_some_iff.mp e1
  obtain ⟨ts, b2, e2⟩ := obind e2
  obtain ⟨o, ρ', c, h1, h2, h3⟩ := evL_ok h hR b1 b2
  unfold lstV at e2
  split at e2
  · rename_i hz
    cases e2
    exact ⟨o, ρ', by simp [c, hz], h1, hasTy_lst.mpr ⟨ts, rfl, jnL_ok h2⟩, h3⟩
  · cases e2
theorem vok_ix {k : Option Nat} (h1 : OK d1 q1 a1) (h2 : OK d2 q2 a2) (hk : ∀ p n y, k = some n → q2.v p = some y → y = .int n) : VOK (fun ρ => (d1.v ρ).bind fun r0 => (vo d2.c r0).bind fun ra => (d2.v ra.ρ).bind fun ri => pickR (fun x => ixV x ri.t) ra.t ra.o ri.ρ)
    (fun p => (q1.v p).bind fun x => (q2.v p).bind fun y => ixV x y)
    (fun s => (a1.v s).bind fun r0 => (voA a2.c r0).bind fun ra => (a2.v ra.s).bind fun ri => if (ixTy ra.ty k).isNl then some ⟨ixTy ra.ty k, .own .full, ri.s⟩ else (reA ra.o ri.s).map fun s' => ⟨ixTy ra.ty k, .own .cold, s'⟩) := by
  intro s p ρ r t hR e1 e2
  obtain ⟨r0, b1, e1⟩ := obind e1
  obtain ⟨ra, b2, e1⟩ := obind e1
  obtain ⟨rb, b3, e1⟩ := obind e1
  obtain ⟨x, b4, e2⟩ := obind e2
  obtain ⟨y, b5, e2⟩ := obind e2
  obtain ⟨o, ρ1, c1, k1, k2, k3⟩ := h1.v _ _ _ _ _ hR b1 b4
  obtain ⟨o', ρ2, c2, k4, k5, k6⟩ := voA_ok k1 k3 b2
  obtain ⟨o2, ρ3, c3, k7, k8, k9⟩ := h2.v _ _ _ _ _ k4 b3 b5
  rw [← k6] at k2
  have ht := ixTy_ok k2 (fun n q => hk p n y q b5) e2
  split at e1
  · rename_i hn
    cases e1
    exact ⟨.full, ρ3, by simp [c1, h2.c, c2, c3, e2, isNl_ok hn ht], k7, ht, rfl⟩
  · obtain ⟨s', b6, e3⟩ := Option.map_eq_some_iff.mp e1
    subst e3
    obtain ⟨ρ4, c4, m1⟩ := reA_ok k7 k5 b6
    cases hn : t.nl
    · exact ⟨.cold, ρ4, by simp [c1, h2.c, c2, c3, e2, hn, c4], m1, ht, by simp [VR, okO]⟩
    · exact ⟨.full, ρ3, by simp [c1, h2.c, c2, c3, e2, hn], reA_weak k7 b6, ht, by simp [VR, okO]⟩
theorem vok_sl {dl dh ql qh al ah} (h : OK d q a) (hl : OKs dl ql al) (hh : OKs dh qh ah) : VOK (fun ρ => (d.v ρ).bind fun r0 => (vo (anyC dl || anyC dh) r0).bind fun ra => (evO dl ra.ρ).bind fun rl => (evO dh rl.2).bind fun rh => shareR1 (slV rl.1 rh.1) ra.t ra.o rh.2)
    (fun p => (q.v p).bind fun x => (pO ql p).bind fun l => (pO qh p).bind fun h => slV l h x)
    (fun s => (a.v s).bind fun r0 => (voA (anyA al || anyA ah) r0).bind fun ra => (aO al ra.s).bind fun s1 => (aO ah s1).bind fun s2 => sh1A (slTy ra.ty) ra.o s2) := by
  intro s p ρ r t hR e1 e2
  obtain ⟨r0, b1, e1⟩ := obind e1
  obtain ⟨ra, b2, e1⟩ := obind e1
  obtain ⟨s1, b3, e1⟩ := obind e1
  obtain ⟨s2, b4, e1⟩ := obind e1
  obtain ⟨x, b5, e2⟩ := obind e2
  obtain ⟨l, b6, e2⟩ := obind e2
  obtain ⟨h', b7, e2⟩ := obind e2
  obtain ⟨o, ρ1, c1, k1, k2, k3⟩ := h.v _ _ _ _ _ hR b1 b5
  obtain ⟨o', ρ2, c2, k4, k5, k6⟩ := voA_ok k1 k3 b2
  obtain ⟨ρ3, c3, k7⟩ := evO_ok hl k4 b3 b6
  obtain ⟨ρ4, c4, k8⟩ := evO_ok hh k7 b4 b7
  rw [← k6] at k2
  obtain ⟨o3, ρ5, c5, m1, m2, m3⟩ := sh1_ok k8 k5 e2 (sl_shp e2) (slTy_ok k2 e2) e1
  exact ⟨o3, ρ5, by simp only [c1, Option.bind_some, hl.any, hh.any, c2, c3, c4, c5], m1, m2, m3⟩
theorem vok_rev (h : OK d q a) : VOK (fun ρ => (d.v ρ).bind fun ra => shareR1 revV ra.t ra.o ra.ρ) (fun p => (q.v p).bind revV) (fun s => (a.v s).bind fun ra => sh1A (revTy ra.ty) ra.o ra.s) := by
  intro s p ρ r t hR e1 e2
  obtain ⟨ra, b1, e1⟩ := obind e1
  obtain ⟨x, b5, e2⟩ := obind e2
  obtain ⟨o, ρ1, c1, k1, k2, k3⟩ := h.v _ _ _ _ _ hR b1 b5
  obtain ⟨o3, ρ5, c5, m1, m2, m3⟩ := sh1_ok k1 k3 e2 (rev_shp e2) (revTy_ok k2 e2) e1
  exact ⟨o3, ρ5, by simp only [c1, Option.bind_some, c5], m1, m2, m3⟩
theorem vok_call {G sig C PC} (K : CallOk G sig C PC) {f : List Nat} (h : OKs ds qs as) : VOK (fun ρ => (evV ds ρ).bind fun x => (reL x.1 x.2.1 x.2.2).bind fun z => (C f z.1).map fun y => if y.2.isFull then ⟨y.1, .full, x.2.2⟩ else ⟨y.1, y.2, z.2⟩)
    (fun p => (pL qs p).bind (PC f)) (fun s => (sig f).bind fun g => acall g as s) := by
  intro s p ρ r t hR e1 e2
  obtain ⟨g, b1, e1⟩ := obind e1
  obtain ⟨x, b2, e1⟩ := obind e1
  obtain ⟨ts, b3, e2⟩ := obind e2
  obtain ⟨os, ρ1, c1, k1, k2, k3⟩ := evV_ok h hR b2 b3
  split at e1
  · rename_i hl
    obtain ⟨s', b4, e3⟩ := Option.map_eq_some_iff.mp e1
    subst e3
    obtain ⟨ρ2, c2, k4⟩ := reL_ok k1 k3 b4
    obtain ⟨o, c3, k5, k6⟩ := K.call f g ts t b1 (leL_ok hl k2) e2
    cases hf : g.2.2.isFull
    · cases ho : o.isFull
      · exact ⟨o, ρ2, by simp [c1, c2, c3, ho], by simpa [hf] using k4, k6, k5⟩
      · refine ⟨.full, ρ1, by simp [c1, c2, c3, ho], ?_, k6, okO_full⟩
        simpa [hf] using reLA_weak k1 b4
    · have : o = .full := by
        cases hg : g.2.2 <;> rw [hg] at hf k5 <;> simp [AO.isFull] at hf
        exact k5
      subst this
      exact ⟨.full, ρ1, by simp [c1, c2, c3], by simpa [hf] using k1, k6, okO_full⟩
  · cases e1
theorem vok_blt {f : BF} (h : OKs ds qs as) : VOK (fun ρ => (evV ds ρ).bind fun x => shareB (bltV f) x.1 x.2.1 x.2.2) (fun p => (pL qs p).bind (bltV f)) (ablt f as) := by
  intro s p ρ r t hR e1 e2
  obtain ⟨x, b2, e1⟩ := obind e1
  obtain ⟨ts, b3, e2⟩ := obind e2
  obtain ⟨os, ρ1, c1, k1, k2, k3⟩ := evV_ok h hR b2 b3
  have ht := bltTy_ok k2 e2
  split at e1
  · rename_i v hv
    rw [hv] at k3
    simp only [VRL] at k3
    obtain ⟨t1, ts', o1, os', rfl, rfl, m1, rfl, rfl⟩ := k3
    obtain ⟨o3, ρ5, c5, m1, m2, m3⟩ := sh1_ok (g := fun x => bltV f [x]) k1 m1 e2 (blt_shp e2) ht e1
    exact ⟨o3, ρ5, by simp only [c1, Option.bind_some]; exact c5, m1, m2, m3⟩
  · rename_i hv
    split at e1
    · rename_i hn
      cases e1
      refine ⟨.full, ρ1, ?_, k1, ht, rfl⟩
      simp only [c1, Option.bind_some]
      have hb : shareB (bltV f) ts os ρ1 = (bltV f ts).bind fun y => if y.nl then some ⟨y, .full, ρ1⟩ else none := by
        unfold shareB
        split
        · rename_i t1 o1
          exfalso
          cases hx : x.2.1 with
          | nil => rw [hx] at k3; simp [VRL] at k3
          | cons v vs =>
            cases vs with
            | nil => exact hv v hx
            | cons w ws =>
              rw [hx] at k3
              simp only [VRL] at k3
              obtain ⟨_, _, _, _, q1, _, _, _, _, _, _, q2, _⟩ := k3
              subst q2
              simp at q1
        · rfl
      rw [hb, e2]
      simp [isNl_ok hn ht]
    · cases e1
theorem vok_isi {c : CT} (h : OK d q a) : VOK (fun ρ => (d.v ρ).map fun ra => ⟨.bl (isiV c ra.t), .full, ra.ρ⟩) (fun p => (q.v p).map fun x => .bl (isiV c x)) (fun s => (a.v s).map fun r => ⟨.nl, .own .full, r.s⟩) := by
  intro s p ρ r t hR e1 e2
  obtain ⟨r1, b1, rfl⟩ := Option.map_eq_some_iff.mp e1
  obtain ⟨x, b2, rfl⟩ := Option.map_eq_some_iff.mp e2
  obtain ⟨o, ρ', c, h1, h2, h3⟩ := h.v _ _ _ _ _ hR b1 b2
  exact ⟨.full, ρ', by simp [c], h1, hasTy_nl.mpr rfl, rfl⟩
theorem vok_meth {f : MF} (h : OK d q a) (hs : OKs ds qs as) : VOK (fun ρ => (d.v ρ).bind fun r0 => (vo (anyC ds) r0).bind fun ra => (evV ds ra.ρ).bind fun x => (methV f ra.t x.1).bind fun t => if t.nl then some ⟨t, .full, x.2.2⟩ else none)
    (fun p => (q.v p).bind fun x => (pL qs p).bind (methV f x)) (fun s => (a.v s).bind fun r0 => (voA (anyA as) r0).bind fun ra => (aVs as ra.s).map fun x => ⟨.nl, .own .full, x.2.2⟩) := by
  intro s p ρ r t hR e1 e2
  obtain ⟨r0, b1, e1⟩ := obind e1
  obtain ⟨ra, b2, e1⟩ := obind e1
  obtain ⟨x, b3, e3⟩ := Option.map_eq_some_iff.mp e1
  subst e3
  obtain ⟨y, b4, e2⟩ := obind e2
  obtain ⟨ts, b5, e2⟩ := obind e2
  obtain ⟨o, ρ1, c1, k1, k2, k3⟩ := h.v _ _ _ _ _ hR b1 b4
  obtain ⟨o', ρ2, c2, k4, k5, k6⟩ := voA_ok k1 k3 b2
  obtain ⟨os, ρ3, c3, k7, k8, k9⟩ := evV_ok hs k4 b3 b5
  have hn := meth_nl e2
  exact ⟨.full, ρ3, by simp [c1, hs.any, c2, c3, e2, hn], k7, hasTy_nl.mpr hn, rfl⟩
theorem vok_lc {own : List Nat} {tg : Tg} (he : OK d1 q1 a1) (hi : OK d2 q2 a2) (hs : OKs ds qs as) : VOK (fun ρ => (d2.i ρ).bind fun x => (lcLoop own (fun x ρ => bindT tg x .cold ρ) (fun ρ => evTs ds ρ) (fun ρ => (d1.v ρ).bind val) x.1 [] .full x.2).map fun y => ⟨.lst y.1, y.2.1, backE x.2 own y.2.2⟩)
    (fun p => (q2.i p).bind fun xs => (lcP (fun x => (pbind tg x p).bind fun p1 => (pTs qs p1).bind fun b => if b then (q1.v p1).map some else some none) xs).bind lstV)
    (fun s => if tgOk own tg then (a2.i s).bind fun x => (fixL own tg x.1 as a1 9 x.2).bind fun y => if leA x.2 y.2.2 || leA (wipeA own x.2) (wipeA own y.2.2) then some ⟨.lst y.1, .own (fs y.2.1.isFull), backA x.2 own (wipeA own y.2.2)⟩ else none else none) := by
  intro s p ρ r t hR e1 e2
  simp only at e1
  split at e1
  · rename_i htg
    obtain ⟨x, b1, e1⟩ := obind e1
    obtain ⟨y, b2, e1⟩ := obind e1
    split at e1
    · rename_i hl
      cases e1
      obtain ⟨xs, b3, e2⟩ := obind e2
      obtain ⟨ys, b4, e2⟩ := obind e2
      unfold lstV at e2
      split at e2
      · rename_i hz
        cases e2
        obtain ⟨ρ1, c1, h1, h2⟩ := hi.i _ _ _ _ _ hR b1 b3
        obtain ⟨s', f1, f2⟩ := fixL_ok b2
        have h3 : Rel (wipeA own y.2.2) p ρ1 := by
          simp only [Bool.or_eq_true] at hl
          rcases hl with hl | hl
          · have := (h1.le hl)
            exact (this.agr (own := own) ⟨rfl, fun _ _ => rfl⟩)
          · exact (h1.agr (own := own) ⟨rfl, fun _ _ => rfl⟩).le hl
        obtain ⟨o', ρ', c2, h4, h5, h6⟩ := lc_ok he hs htg f1 f2 xs ys [] .full ρ1 h3 h2 okO_full b4 (by simpa using hz)
        refine ⟨o', backE ρ1 own ρ', ?_, back_ok h1 h4, hasTy_lst.mpr ⟨ys, rfl, h5⟩, h6⟩
        simp only [c1, Option.bind_some]
        rw [c2]
        rfl
      · cases e2
    · cases e1
  · cases e1
theorem vok_pth {i : Nat} (h : OKs ds qs as) : VOK (fun ρ => match ρ[i]? with
    | some (some (t, _)) => (evIs ds.reverse ρ).bind fun x => (getP x.1 t).bind fun z => if z.nl then some ⟨z, .full, ρ⟩ else none
    | _ => none) (fun p => (pget p i).bind fun t => (pIs qs.reverse p).bind fun ks => (getP ks t).bind nlV) (fun s => if liveA i s then (aIs as.reverse s).map fun _ => ⟨.nl, .own .full, s⟩ else none) := by
  intro s p ρ r t hR e1 e2
  simp only at e1
  split at e1
  · rename_i hl
    obtain ⟨s', b1, rfl⟩ := Option.map_eq_some_iff.mp e1
    obtain ⟨t0, b2, e2⟩ := obind e2
    obtain ⟨ks, b3, e2⟩ := obind e2
    obtain ⟨z, b4, e2⟩ := obind e2
    obtain ⟨ox, c0⟩ := liveA_ok hl hR b2
    obtain ⟨ρ1, c1, k1⟩ := evIs_ok h.rev hR b1 b3
    unfold nlV at e2
    split at e2
    · rename_i hn
      cases e2
      exact ⟨.full, ρ, by simp [c0, c1, b4, hn], hR, hasTy_nl.mpr hn, rfl⟩
    · cases e2
  · cases e1
theorem iok_rng (h : OKs ds qs as) : IOK (fun ρ => (evV ds ρ).bind fun x => (rngV x.1).map fun xs => (xs, x.2.2)) (fun p => (pL qs p).bind rngV) (fun s => (aVs as s).map fun x => (.nl, x.2.2)) := by
  intro s p ρ r xs hR e1 e2
  obtain ⟨x, b1, rfl⟩ := Option.map_eq_some_iff.mp e1
  obtain ⟨ts, b2, e2⟩ := obind e2
  obtain ⟨os, ρ1, c1, k1, k2, k3⟩ := evV_ok h hR b1 b2
  exact ⟨ρ1, by simp [c1, e2], k1, rng_nl e2⟩
theorem iok_zip (h1 : OK d1 q1 a1) (h2 : OK d2 q2 a2) : IOK (fun ρ => (d1.v ρ).bind fun r0 => (vo d2.c r0).bind fun ra => (d2.v ra.ρ).bind fun rb => (reT ra.t ra.o rb.ρ).bind fun x => (reT rb.t rb.o x.2).bind fun y => match x.1, y.1 with
    | .lst xs, .lst ys => some ((xs.zip ys).map fun p => .tup [p.1, p.2], y.2)
    | .str xs, .str ys => some ((xs.zip ys).map fun p => .tup [.str [p.1], .str [p.2]], y.2)
    | _, _ => none) (fun p => (q1.v p).bind fun x => (q2.v p).bind fun y => zipV x y)
    (fun s => (a1.v s).bind fun r0 => (voA a2.c r0).bind fun ra => (a2.v ra.s).bind fun rb => (reA ra.o rb.s).bind fun s1 => (reA rb.o s1).map fun s2 => (.tup [itTy ra.ty, itTy rb.ty], s2)) := by
  intro s p ρ r xs hR e1 e2
  obtain ⟨r0, b1, e1⟩ := obind e1
  obtain ⟨ra, b2, e1⟩ := obind e1
  obtain ⟨rb, b3, e1⟩ := obind e1
  obtain ⟨s1, b6, e1⟩ := obind e1
  obtain ⟨s2, b7, e3⟩ := Option.map_eq_some_iff.mp e1
  subst e3
  obtain ⟨x, b4, e2⟩ := obind e2
  obtain ⟨y, b5, e2⟩ := obind e2
  obtain ⟨o, ρ1, c1, k1, k2, k3⟩ := h1.v _ _ _ _ _ hR b1 b4
  obtain ⟨o', ρ2, c2, k4, k5, k6⟩ := voA_ok k1 k3 b2
  obtain ⟨o2, ρ3, c3, k7, k8, k9⟩ := h2.v _ _ _ _ _ k4 b3 b5
  obtain ⟨ρ4, c4, m1⟩ := reA_ok k7 k5 b6
  obtain ⟨ρ5, c5, m2⟩ := reA_ok m1 k9 b7
  rw [← k6] at k2
  unfold zipV at e2
  split at e2
  · rename_i l1 l2
    cases e2
    refine ⟨ρ5, by simp [c1, h2.c, c2, c3, c4, c5], m2, fun z m => ?_⟩
    obtain ⟨⟨u, v⟩, m', rfl⟩ := List.mem_map.mp m
    have g1 := itTy_ok k2 rfl u (List.of_mem_zip m').1
    have g2 := itTy_ok k8 rfl v (List.of_mem_zip m').2
    refine hasTy_tup.mpr ⟨_, rfl, ?_⟩
    simp only [hasTyL]
    exact ⟨u, _, rfl, g1, v, _, rfl, g2, rfl⟩
  · rename_i l1 l2
    cases e2
    refine ⟨ρ5, by simp [c1, h2.c, c2, c3, c4, c5], m2, fun z m => ?_⟩
    obtain ⟨⟨u, v⟩, m', rfl⟩ := List.mem_map.mp m
    have g1 := itTy_ok k2 rfl (.str [u]) (List.mem_map.mpr ⟨u, (List.of_mem_zip m').1, rfl⟩)
    have g2 := itTy_ok k8 rfl (.str [v]) (List.mem_map.mpr ⟨v, (List.of_mem_zip m').2, rfl⟩)
    refine hasTy_tup.mpr ⟨_, rfl, ?_⟩
    simp only [hasTyL]
    exact ⟨_, _, rfl, g1, _, _, rfl, g2, rfl⟩
  · cases e2
theorem iok_enum (h : OK d q a) : IOK (fun ρ => (d.v ρ).bind fun ra => (reT ra.t ra.o ra.ρ).bind fun x => match x.1 with
    | .lst xs => some (xs.zipIdx.map fun p => .tup [.int (p.2 : Nat), p.1], x.2)
    | _ => none) (fun p => (q.v p).bind enumV) (fun s => (a.v s).bind fun ra => (reA ra.o ra.s).map fun s1 => (.tup [.nl, itTy ra.ty], s1)) := by
  intro s p ρ r xs hR e1 e2
  obtain ⟨ra, b1, e1⟩ := obind e1
  obtain ⟨s1, b6, e3⟩ := Option.map_eq_some_iff.mp e1
  subst e3
  obtain ⟨x, b4, e2⟩ := obind e2
  obtain ⟨o, ρ1, c1, k1, k2, k3⟩ := h.v _ _ _ _ _ hR b1 b4
  obtain ⟨ρ4, c4, m1⟩ := reA_ok k1 k3 b6
  unfold enumV at e2
  split at e2
  · rename_i l1
    cases e2
    refine ⟨ρ4, by simp [c1, c4], m1, fun z m => ?_⟩
    obtain ⟨⟨u, v⟩, m', rfl⟩ := List.mem_map.mp m
    have g1 := itTy_ok k2 rfl u (List.fst_mem_of_mem_zipIdx m')
    refine hasTy_tup.mpr ⟨_, rfl, ?_⟩
    simp only [hasTyL]
    exact ⟨_, _, rfl, hasTy_nl.mpr rfl, u, _, rfl, g1, rfl⟩
  · cases e2
theorem iok_revd (h : OK d q a) : IOK (fun ρ => (d.v ρ).bind fun ra => (reT ra.t ra.o ra.ρ).bind fun x => match x.1 with
    | .lst xs => some (xs.reverse, x.2)
    | _ => none) (fun p => (q.v p).bind revdV) (fun s => (a.v s).bind fun ra => (reA ra.o ra.s).map fun s1 => (itTy ra.ty, s1)) := by
  intro s p ρ r xs hR e1 e2
  obtain ⟨ra, b1, e1⟩ := obind e1
  obtain ⟨s1, b6, e3⟩ := Option.map_eq_some_iff.mp e1
  subst e3
  obtain ⟨x, b4, e2⟩ := obind e2
  obtain ⟨o, ρ1, c1, k1, k2, k3⟩ := h.v _ _ _ _ _ hR b1 b4
  obtain ⟨ρ4, c4, m1⟩ := reA_ok k1 k3 b6
  unfold revdV at e2
  split at e2
  · cases e2
    exact ⟨ρ4, by simp [c1, c4], m1, fun z m => itTy_ok k2 rfl z (List.mem_reverse.mp m)⟩
  · cases e2
theorem tok_none {d : Env → Option (Bool × Env)} {q : PE → Option Bool} : TOK d q (fun _ => none) := fun _ _ _ _ _ _ e => by cases e
theorem iok_none {d : Env → Option (List T × Env)} {q : PE → Option (List T)} : IOK d q (fun _ => none) := fun _ _ _ _ _ _ e => by cases e
end
section
variable {G : List Nat → Option T} {sig : Sig} {C : List Nat → List T → Option (T × Own)} {PC : List Nat → List T → Option T}
mutual
theorem okD (K : CallOk G sig C PC) : ∀ e : E, OK (den G C e) (pden G PC e) (aden G sig e)
  | .int i => by simp only [den, pden, aden]; exact ok_val rfl (vok_nl rfl)
  | .bl b => by simp only [den, pden, aden]; exact ok_val rfl (vok_nl rfl)
  | .non => by simp only [den, pden, aden]; exact ok_val rfl (vok_nl rfl)
  | .str x => by simp only [den, pden, aden]; exact ok_val rfl (vok_nl rfl)
  | .var i => by rw [den_var]; simp only [pden, aden]; exact ok_val rfl vok_var
  | .mov i => by rw [den_mov]; simp only [pden, aden]; exact ok_val rfl vok_mov
  | .glob x => by simp only [den, pden, aden]; exact ok_val rfl vok_glob
  | .bin op a b => by
    rw [den_bin]; simp only [pden, aden]
    have h1 := okD K a
    have h2 := okD K b
    exact ok_val (by rw [h1.c, h2.c]) (vok_bin h1 h2)
  | .neg a => by
    rw [den_neg]; simp only [pden, aden]
    have h1 := okD K a
    refine ok_val h1.c ?_
    have := vok_nlmap (g := negV) (fun x y e => by cases x <;> simp [negV] at e; subst e; rfl) h1
    intro s p ρ r t hR e1 e2
    obtain ⟨o, ρ', c, k⟩ := this s p ρ r t hR e1 e2
    refine ⟨o, ρ', ?_, k⟩
    rw [← c]
    simp only
    congr 1
    funext r
    cases r.t <;> rfl
  | .notv a => by
    rw [den_notv]; simp only [pden, aden]
    have h1 := okD K a
    have hv : VOK (fun ρ => ((den G C a).v ρ).bind fun r => (truth r.t).map fun b => (⟨.bl (!b), .full, r.ρ⟩ : R)) (fun p => ((pden G PC a).v p).bind fun r => (truth r).map fun b => .bl (!b)) (fun s => ((aden G sig a).v s).map fun r => ⟨.nl, .own .full, r.s⟩) := by
      intro s p ρ r t hR e1 e2
      obtain ⟨o, ρ', c, k⟩ := vok_nlmap (g := fun x => (truth x).map fun b => .bl (!b)) (fun x y e => by obtain ⟨b, _, rfl⟩ := Option.map_eq_some_iff.mp e; rfl) h1 s p ρ r t hR e1 e2
      refine ⟨o, ρ', ?_, k⟩
      rw [← c]
      simp [Option.map_map, Function.comp_def]
    refine ⟨h1.c, hv, ?_, iok hv⟩
    intro s p ρ s' b hR e1 e2
    obtain ⟨k, e3, rfl⟩ := Option.map_eq_some_iff.mp e2
    obtain ⟨ρ', c, h⟩ := h1.t _ _ _ _ _ hR e1 e3
    exact ⟨ρ', by simp [c], h⟩
  | .cmp op a b => by
    rw [den_cmp]; simp only [pden, aden]
    have h1 := okD K a
    have h2 := okD K b
    exact ok_val (by rw [h1.c, h2.c]) (vok_cmp h1 h2)
  | .chain op op' a b c => by
    rw [den_chain]; simp only [pden, aden]
    have h1 := okD K a
    have h2 := okD K b
    have h3 := okD K c
    exact ok_val (by rw [h1.c, h2.c, h3.c]) (vok_chain h1 h2 h3)
  | .andv es => by
    rw [den_andv]; simp only [pden, aden]
    have h := okDL K es
    exact ⟨h.any, vok_and h, andT_ok h, iok (vok_and h)⟩
  | .orv es => by
    rw [den_orv]; simp only [pden, aden]
    have h := okDL K es
    exact ⟨h.any, vok_or h, orT_ok h, iok (vok_or h)⟩
  | .ife c a b => by
    rw [den_ife]; simp only [pden, aden]
    have h1 := okD K c
    have h2 := okD K a
    have h3 := okD K b
    have hv := vok_ife h1 h2 h3
    exact ⟨by simp [h1.c, h2.c, h3.c], hv, tok_none, iok hv⟩
  | .tup es => by
    rw [den_tup]; simp only [pden, aden]
    have h := okDL K es
    exact ok_val h.any (vok_tup h)
  | .lst es => by
    rw [den_lst]; simp only [pden, aden]
    have h := okDL K es
    exact ok_val h.any (vok_lst h)
  | .ix a i => by
    rw [den_ix]; simp only [pden, aden]
    have h1 := okD K a
    have h2 := okD K i
    refine ok_val (by rw [h1.c, h2.c]) (vok_ix h1 h2 fun p n y hk hy => ?_)
    cases i <;> simp only [litE] at hk <;> (try cases hk)
    rename_i i
    split at hk
    · cases hk
      simp only [pden, pV] at hy
      cases hy
      congr 1
      omega
    · cases hk
  | .sl a lo hi => by
    rw [den_sl]; simp only [pden, aden]
    have h1 := okD K a
    have h2 := okDL K lo
    have h3 := okDL K hi
    exact ok_val (by rw [h1.c, h2.any, h3.any]) (vok_sl h1 h2 h3)
  | .rev a => by
    rw [den_rev]; simp only [pden, aden]
    have h1 := okD K a
    exact ok_val h1.c (vok_rev h1)
  | .call f es => by
    rw [den_call]; simp only [pden, aden]
    have h := okDL K es
    exact ok_val h.any (vok_call K h)
  | .blt f es => by
    rw [den_blt]; simp only [pden, aden]
    have h := okDL K es
    exact ok_val h.any (vok_blt h)
  | .isi a c => by
    rw [den_isi]; simp only [pden, aden]
    have h1 := okD K a
    exact ok_val h1.c (vok_isi h1)
  | .meth f a es => by
    rw [den_meth]; simp only [pden, aden]
    have h1 := okD K a
    have h := okDL K es
    exact ok_val (by rw [h1.c, h.any]) (vok_meth h1 h)
  | .lc elt tg it ifs own => by
    rw [den_lc]; simp only [pden, aden]
    exact ok_val rfl (vok_lc (okD K elt) (okD K it) (okDL K ifs))
  | .lc2 _ _ _ _ _ _ _ _ _ => by
    simp only [den, pden, aden]
    exact ok_val rfl vok_none
  | .pth i kr => by
    rw [den_pth]; simp only [pden, aden]
    have h := okDL K kr
    exact ok_val h.any (vok_pth h)
  | .rng es => by
    rw [den_rng]; simp only [pden, aden]
    have h := okDL K es
    exact ⟨h.any, vok_none, tok_none, iok_rng h⟩
  | .zip a b => by
    rw [den_zip]; simp only [pden, aden]
    have h1 := okD K a
    have h2 := okD K b
    exact ⟨by simp [h1.c, h2.c], vok_none, tok_none, iok_zip h1 h2⟩
  | .enum a => by
    rw [den_enum]; simp only [pden, aden]
    have h1 := okD K a
    exact ⟨h1.c, vok_none, tok_none, iok_enum h1⟩
  | .revd a => by
    rw [den_revd]; simp only [pden, aden]
    have h1 := okD K a
    exact ⟨h1.c, vok_none, tok_none, iok_revd h1⟩
theorem okDL (K : CallOk G sig C PC) : ∀ es : List E, OKs (denL G C es) (pdenL G PC es) (adenL G sig es)
  | [] => by simp only [denL, pdenL, adenL]; exact .nil
  | e :: es => by simp only [denL, pdenL, adenL]; exact .cons (okD K e) (okDL K es)
end
end
end Ev
namespace Ev
open L2
open PySem (sizeLine)
structure AF where
  nx : Option AE
  bk : Option AE
  ct : Option AE
def jnO : Option AE → Option AE → Option (Option AE)
  | none, b => some b
  | some a, none => some (some a)
  | some a, some b => (jnA a b).map some
def leO : Option AE → AE → Bool
  | none, _ => true
  | some s, s' => leA s s'
theorem jnO_l {a b c : Option AE} {s : AE} {p : PE} {ρ : Env} (e : jnO a b = some c) (ha : a = some s) (h : Rel s p ρ) : ∃ s', c = some s' ∧ Rel s' p ρ := by
  subst ha
  cases b with
  | none => cases e; exact ⟨s, rfl, h⟩
  | some b =>
    obtain ⟨j, e1, rfl⟩ := Option.map_eq_some_iff.mp (show Option.map _ _ = _ from e)
    exact ⟨j, rfl, jnA_l e1 h⟩
theorem jnO_r {a b c : Option AE} {s : AE} {p : PE} {ρ : Env} (e : jnO a b = some c) (hb : b = some s) (h : Rel s p ρ) : ∃ s', c = some s' ∧ Rel s' p ρ := by
  subst hb
  cases a with
  | none => cases e; exact ⟨s, rfl, h⟩
  | some a =>
    obtain ⟨j, e1, rfl⟩ := Option.map_eq_some_iff.mp (show Option.map _ _ = _ from e)
    exact ⟨j, rfl, jnA_r e1 h⟩
def jnF (a b : AF) : Option AF := (jnO a.nx b.nx).bind fun x => (jnO a.bk b.bk).bind fun y => (jnO a.ct b.ct).map fun z => ⟨x, y, z⟩
def fixW (f : AE → Option AF) : Nat → AE → Option (AE × AF)
  | 0, _ => none
  | n + 1, s => (f s).bind fun r => if leO r.nx s && leO r.ct s then some (s, r) else (jnO (some s) r.nx).bind fun x => (jnO x r.ct).bind fun y => match y with
    | some s' => fixW f n s'
    | none => none
theorem fixW_ok {f : AE → Option AF} : ∀ {n : Nat} {s : AE} {x : AE × AF}, fixW f n s = some x → f x.1 = some x.2 ∧ leO x.2.nx x.1 = true ∧ leO x.2.ct x.1 = true
  | 0, _, _, h => by simp [fixW] at h
  | n + 1, s, x, h => by
    simp only [fixW] at h
    obtain ⟨r, h1, h⟩ := obind h
    split at h
    · rename_i hl
      cases h
      simp only [Bool.and_eq_true] at hl
      exact ⟨h1, hl.1, hl.2⟩
    · obtain ⟨y, _, h⟩ := obind h
      obtain ⟨z, _, h⟩ := obind h
      split at h
      · exact fixW_ok h
      · cases h
def modAO (deep : Bool) (o eo : AO) : Option AO := match o with
  | .full => if eo.isFull then some .full else if deep then none else some .shal
  | .shal => if deep then none else some .shal
  | .cold => none
def appTy : Nat → Ty → Ty → Ty
  | 0, .lst a, e => .lst (jn a e)
  | 0, _, _ => .top
  | n + 1, .lst a, e => .lst (jn a (appTy n a e))
  | n + 1, .tup as, e => .tup (as.map fun a => jn a (appTy n a e))
  | _ + 1, _, _ => .top
def modA (i n : Nat) (ety : Ty) (eo : AO) (s : AE) : Option AE := match s[i]? with
  | some (some (ty, o)) => (modAO (n != 0) o eo).map fun o' => s.set i (some (appTy n ty ety, o'))
  | _ => none
/-- the type behind places -/
def pathTy : Nat → Ty → Ty
  | 0, t => t
  | n + 1, t => pathTy n (itTy t)
/-- another type behind places -/
def rplTy : Nat → Ty → Ty → Ty
  | 0, _, e => e
  | n + 1, .lst a, e => .lst (jn a (rplTy n a e))
  | n + 1, .tup as, e => .tup (as.map fun a => jn a (rplTy n a e))
  | _ + 1, _, _ => .top
def ownA (sig : Sig) (i n : Nat) (f : List Nat) (j m : Nat) (s : AE) : Option AE := match s[i]?, s[j]? with
  | some (some (ty, .full)), some (some (uty, _)) => if i = j then none else (sig (0 :: f)).bind fun g => match g with
    | ([a, b], .tup [_, ty1], .full) => if Ty.le (pathTy n ty) a && Ty.le (pathTy m uty) b then some ((s.set j (some (uty, .cold))).set i (some (rplTy n ty ty1, .full))) else none
    | _ => none
  | _, _ => none
def aOrF : List AD → AE → Option AE
  | [], s => some s
  | d :: ds, s => (d.t s).bind (aOrF ds)
def nxA (s : AE) : AF := ⟨some s, none, none⟩
def outA (s : AE) (b : Option AE) : Option AE := match b with
  | none => some s
  | some b => jnA s b
section
variable (G : List Nat → Option T) (sig : Sig) (rt : Ty) (ro : AO)
mutual
def aS : S → AE → Option AF
  | .set i e, s => ((aden G sig e).v s).bind fun r => (valA r).bind fun x => (bindA (.nm i) x.1 x.2.1 x.2.2).map nxA
  | .setc i elt tg it ifs own, s => ((aden G sig (.lc elt tg it ifs own)).v s).bind fun r => match r.o with
    | .own a => (bindA (.nm i) r.ty a r.s).map nxA
    | _ => none
  | .asg tg e, s => ((aden G sig e).v s).bind fun r => (valA r).bind fun x => (bindA tg x.1 x.2.1 x.2.2).map nxA
  | .par i j a b, s => ((aden G sig a).v s).bind fun r => (valA r).bind fun x => ((aden G sig b).v x.2.2).bind fun q => (valA q).bind fun y => (bindA (.nm i) x.1 x.2.1 y.2.2).bind fun s' => (bindA (.nm j) y.1 y.2.1 s').map nxA
  | .aug i op e, s => if liveA i s then ((aden G sig e).v s).bind fun r => (bindA (.nm i) .nl .full r.s).map nxA else none
  | .app i ixs e, s => if liveA i s then (aIs (adenL G sig ixs) s).bind fun s1 => ((aden G sig e).v s1).bind fun r => (valA r).bind fun x => (modA i ixs.length x.1 x.2.1 x.2.2).map nxA else none
  | .seti i ixs k e, s => ((aden G sig e).v s).bind fun r => (valA r).bind fun x => if liveA i x.2.2 then (aIs (adenL G sig ixs) x.2.2).bind fun s1 => ((aden G sig k).v s1).bind fun rk => (modA i ixs.length x.1 x.2.1 rk.s).map nxA else none
  | .asr cs i ixs f j jxs, s => if Ty.le .nl rt then (aOrF (adenL G sig cs) s).bind fun s0 => (aIs (adenL G sig ixs) s0).bind fun s1 => (aIs (adenL G sig jxs) s1).bind fun s2 => (ownA sig i ixs.length f j jxs.length s2).map nxA else none
  | .exp e, s => ((aden G sig e).v s).map fun r => nxA r.s
  | .ret e, s => ((aden G sig e).v s).bind fun r => (valA r).bind fun x => if Ty.le x.1 rt && AO.le x.2.1 ro then some ⟨none, none, none⟩ else none
  | .retN, s => if Ty.le .nl rt then some ⟨none, none, none⟩ else none
  | .ite c a b, s => ((aden G sig c).t s).bind fun s1 => (aSs a s1).bind fun x => (aSs b s1).bind fun y => jnF x y
  | .whl c b, s => (fixW (fun s => ((aden G sig c).t s).bind (aSs b)) 9 s).bind fun x => if leA s x.1 then ((aden G sig c).t x.1).bind fun s2 => (outA s2 x.2.bk).map nxA else none
  | .for_ tg it b, s => ((aden G sig it).i s).bind fun y => (fixW (fun s => (bindA tg y.1 .cold s).bind (aSs b)) 9 y.2).bind fun x => if leA y.2 x.1 then (outA x.1 x.2.bk).map nxA else none
  | .pass, s => some (nxA s)
  | .brk, s => some ⟨none, some s, none⟩
  | .cnt, s => some ⟨none, none, some s⟩
def aSs : List S → AE → Option AF
  | [], s => some (nxA s)
  | st :: ss, s => (aS st s).bind fun r => match r.nx with
    | none => some r
    | some s1 => (aSs ss s1).bind fun r2 => (jnO r.bk r2.bk).bind fun y => (jnO r.ct r2.ct).map fun z => ⟨r2.nx, y, z⟩
end
end
def FlR (rt : Ty) (ro : AO) (r : AF) : PF → Fl → Prop
  | .nx p, .nx ρ => ∃ s, r.nx = some s ∧ Rel s p ρ
  | .bk p, .bk ρ => ∃ s, r.bk = some s ∧ Rel s p ρ
  | .ct p, .ct ρ => ∃ s, r.ct = some s ∧ Rel s p ρ
  | .rt t, .rt t' o => t' = t ∧ hasTy rt t ∧ okO ro o
  | _, _ => False
theorem hasTyL_set : ∀ {as : List Ty} {xs : List T} {j : Nat} {e : Ty} {y : T} {f : Ty → Ty}, hasTyL as xs → (∀ a, as[j]? = some a → hasTy (f a) y) → hasTyL (as.map fun a => jn a (f a)) (xs.set j y)
  | [], _, _, _, _, _, h, _ => by simp only [hasTyL] at h; subst h; simp [hasTyL]
  | a :: as, _, j, e, y, f, h, hy => by
    simp only [hasTyL] at h
    obtain ⟨x, xs, rfl, h1, h2⟩ := h
    cases j with
    | zero =>
      simp only [List.set_cons_zero, List.map_cons, hasTyL]
      refine ⟨y, xs, rfl, jn_r (hy a rfl), ?_⟩
      have : ∀ {as : List Ty} {xs : List T}, hasTyL as xs → hasTyL (as.map fun a => jn a (f a)) xs := by
        intro as
        induction as with
        | nil => intro xs h; simpa [hasTyL] using h
        | cons b bs ih =>
          intro xs h
          simp only [hasTyL] at h
          obtain ⟨z, zs, rfl, k1, k2⟩ := h
          simp only [List.map_cons, hasTyL]
          exact ⟨z, zs, rfl, jn_l k1, ih k2⟩
      exact this h2
    | succ j =>
      simp only [List.set_cons_succ, List.map_cons, hasTyL]
      exact ⟨x, _, rfl, jn_l h1, hasTyL_set (e := e) h2 (fun a q => hy a (by simpa using q))⟩
theorem mem_set' {α : Type} {xs : List α} {j : Nat} {y z : α} (h : z ∈ xs.set j y) : z ∈ xs ∨ z = y := List.mem_or_eq_of_mem_set h
/-- a change at a place: appended or stored -/
def chg (ety : Ty) (f : T → Option T) : Prop := ∀ t t', f t = some t' → ∃ xs ys, t = .lst xs ∧ t' = .lst ys ∧ ∀ y ∈ ys, y ∈ xs ∨ hasTy ety y
theorem appTy_ok {ety : Ty} {f : T → Option T} (hf : chg ety f) : ∀ {ks : List Int} {ty : Ty} {t t' : T}, hasTy ty t → modAt f ks t = some t' → hasTy (appTy ks.length ty ety) t'
  | [], ty, t, t', h, e => by
    obtain ⟨xs, ys, rfl, rfl, hy⟩ := hf t t' e
    cases ty with
    | lst a =>
      obtain ⟨zs, q, h'⟩ := hasTy_lst.mp h
      cases q
      refine hasTy_lst.mpr ⟨ys, rfl, fun y m => ?_⟩
      rcases hy y m with m | m
      · exact jn_l (h' y m)
      · exact jn_r m
    | _ => exact hasTy_top
  | k :: ks, ty, t, t', h, e => by
    cases t with
    | lst xs =>
      simp only [modAt] at e
      obtain ⟨j, _, e⟩ := obind e
      obtain ⟨x, ex, e⟩ := obind e
      obtain ⟨y, ey, rfl⟩ := Option.map_eq_some_iff.mp e
      cases ty with
      | lst a =>
        obtain ⟨zs, q, h'⟩ := hasTy_lst.mp h
        cases q
        refine hasTy_lst.mpr ⟨_, rfl, fun z m => ?_⟩
        rcases mem_set' m with m | rfl
        · exact jn_l (h' z m)
        · exact jn_r (appTy_ok hf (h' x (List.mem_of_getElem? ex)) ey)
      | tup as => obtain ⟨_, q, _⟩ := hasTy_tup.mp h; cases q
      | _ => exact hasTy_top
    | tup xs =>
      simp only [modAt] at e
      obtain ⟨j, _, e⟩ := obind e
      obtain ⟨x, ex, e⟩ := obind e
      obtain ⟨y, ey, rfl⟩ := Option.map_eq_some_iff.mp e
      cases ty with
      | lst a => obtain ⟨_, q, _⟩ := hasTy_lst.mp h; cases q
      | tup as =>
        obtain ⟨zs, q, h'⟩ := hasTy_tup.mp h
        cases q
        refine hasTy_tup.mpr ⟨_, rfl, hasTyL_set (e := ety) h' fun a q => ?_⟩
        obtain ⟨a', q1, q2⟩ := hasTyL_get h' ex
        rw [q] at q1
        cases q1
        exact appTy_ok hf q2 ey
      | _ => exact hasTy_top
    | _ => simp [modAt] at e
theorem atI_mem' {xs : List T} {k : Int} {x : T} (h : L2.atI xs k = some x) : x ∈ xs := by
  unfold L2.atI at h
  obtain ⟨j, _, e⟩ := obind h
  exact List.mem_of_getElem? e
theorem pathTy_ok : ∀ {ks : List Int} {ty : Ty} {t z : T}, hasTy ty t → getP ks t = some z → hasTy (pathTy ks.length ty) z
  | [], _, _, _, h, e => by cases e; exact h
  | k :: ks, ty, t, z, h, e => by
    cases t with
    | lst xs =>
      simp only [getP] at e
      obtain ⟨x, e1, e2⟩ := obind e
      exact pathTy_ok (ty := itTy ty) (itTy_ok h (xs := xs) rfl x (atI_mem' e1)) e2
    | tup xs =>
      simp only [getP] at e
      obtain ⟨x, e1, e2⟩ := obind e
      exact pathTy_ok (ty := itTy ty) (itTy_ok h (xs := xs) rfl x (atI_mem' e1)) e2
    | _ => simp [getP] at e
theorem rplTy_ok {ety : Ty} {z : T} (hz : hasTy ety z) : ∀ {ks : List Int} {ty : Ty} {t t' : T}, hasTy ty t → modAt (fun _ => some z) ks t = some t' → hasTy (rplTy ks.length ty ety) t'
  | [], ty, t, t', h, e => by cases e; exact hz
  | k :: ks, ty, t, t', h, e => by
    cases t with
    | lst xs =>
      simp only [modAt] at e
      obtain ⟨j, _, e⟩ := obind e
      obtain ⟨x, ex, e⟩ := obind e
      obtain ⟨y, ey, rfl⟩ := Option.map_eq_some_iff.mp e
      cases ty with
      | lst a =>
        obtain ⟨zs, q, h'⟩ := hasTy_lst.mp h
        cases q
        refine hasTy_lst.mpr ⟨_, rfl, fun z' m => ?_⟩
        rcases mem_set' m with m | rfl
        · exact jn_l (h' z' m)
        · exact jn_r (rplTy_ok hz (h' x (List.mem_of_getElem? ex)) ey)
      | tup as => obtain ⟨_, q, _⟩ := hasTy_tup.mp h; cases q
      | _ => exact hasTy_top
    | tup xs =>
      simp only [modAt] at e
      obtain ⟨j, _, e⟩ := obind e
      obtain ⟨x, ex, e⟩ := obind e
      obtain ⟨y, ey, rfl⟩ := Option.map_eq_some_iff.mp e
      cases ty with
      | lst a => obtain ⟨_, q, _⟩ := hasTy_lst.mp h; cases q
      | tup as =>
        obtain ⟨zs, q, h'⟩ := hasTy_tup.mp h
        cases q
        refine hasTy_tup.mpr ⟨_, rfl, hasTyL_set (e := ety) h' fun a q => ?_⟩
        obtain ⟨a', q1, q2⟩ := hasTyL_get h' ex
        rw [q] at q1
        cases q1
        exact rplTy_ok hz q2 ey
      | _ => exact hasTy_top
    | _ => simp [modAt] at e
theorem orF_ok {ds qs as} (h : OKs ds qs as) : ∀ {s p ρ s' b}, Rel s p ρ → aOrF as s = some s' → pOrF qs p = some b → ∃ ρ', orF ds ρ = some (b, ρ') ∧ (b = false → Rel s' p ρ') := by
  induction h with
  | nil => intro s p ρ s' b hR e1 e2; cases e1; cases e2; exact ⟨ρ, rfl, fun _ => hR⟩
  | cons h hs ih =>
    intro s p ρ s' b hR e1 e2
    simp only [aOrF] at e1
    obtain ⟨s1, a1, e1⟩ := obind e1
    simp only [pOrF] at e2
    obtain ⟨k, b1, e2⟩ := obind e2
    obtain ⟨ρ', c, h1⟩ := h.t _ _ _ _ _ hR a1 b1
    cases k with
    | true =>
      cases e2
      exact ⟨ρ', by simp [orF, c], fun e => by cases e⟩
    | false =>
      obtain ⟨ρ2, c2, h2⟩ := ih h1 e1 (by simpa using e2)
      exact ⟨ρ2, by simp only [orF, c, Option.bind_some]; simpa using c2, h2⟩
theorem own_ok {G : List Nat → Option T} {sig : Sig} {C : List Nat → List T → Option (T × Own)} {PC : List Nat → List T → Option T} (K : CallOk G sig C PC) {i j : Nat} {ks ls : List Int} {f : List Nat} {s s' : AE} {p p' : PE} {ρ : Env} (hR : Rel s p ρ) (e1 : ownA sig i ks.length f j ls.length s = some s') (e2 : pOwn PC i ks f j ls p = some p') :
    ∃ ρ', ownR C i ks f j ls ρ = some (true, ρ') ∧ Rel s' p' ρ' := by
  unfold pOwn at e2
  obtain ⟨t, b1, e2⟩ := obind e2
  obtain ⟨u, b2, e2⟩ := obind e2
  split at e2
  · cases e2
  rename_i hij
  obtain ⟨t0, b3, e2⟩ := obind e2
  obtain ⟨u0, b4, e2⟩ := obind e2
  obtain ⟨y, b5, e2⟩ := obind e2
  split at e2
  · rename_i t1
    obtain ⟨t2, b6, rfl⟩ := Option.map_eq_some_iff.mp e2
    unfold ownA at e1
    split at e1
    · rename_i ty uty ao c1 c2
      rw [if_neg hij] at e1
      obtain ⟨g, c3, e1⟩ := obind e1
      split at e1
      · rename_i a b r ty1
        split at e1
        · rename_i hl
          cases e1
          simp only [Bool.and_eq_true] at hl
          obtain ⟨k1, o, k2, k3⟩ := hR.at_ _ _ _ _ c1 (pget_some.mp b1)
          obtain ⟨m1, oj, m2, m3⟩ := hR.at_ _ _ _ _ c2 (pget_some.mp b2)
          cases k3
          obtain ⟨oc, q1, q2, q3⟩ := K.call (0 :: f) _ [t0, u0] _ c3 (by
            simp only [hasTyL]
            exact ⟨t0, _, rfl, le_ok hl.1 (pathTy_ok k1 b3), u0, _, rfl, le_ok hl.2 (pathTy_ok m1 b4), rfl⟩) b5
          cases q2
          have ht1 : hasTy ty1 t1 := by
            obtain ⟨zs, ez, hz⟩ := hasTy_tup.mp q3
            cases ez
            simp only [hasTyL] at hz
            obtain ⟨_, _, e, _, _, _, e', h', _⟩ := hz
            cases e
            cases e'
            exact h'
          have hcool : coolA j s = some (s.set j (some (uty, .cold))) := by unfold coolA; rw [c2]
          obtain ⟨oj', m4, hR2⟩ := Rel.coolE hR hcool (pget_some.mp b2)
          have hi : i < (ρ.set j (some (u, .cold))).length := by rw [List.length_set]; exact (List.getElem?_eq_some_iff.mp k2).1
          refine ⟨_, ?_, hR2.set (rplTy_ok ht1 k1 b6) (show okO .full .full from rfl) hi⟩
          unfold ownR
          rw [k2, m2]
          simp only [if_neg hij, b3, b4, q1, b6, Option.bind_some, Option.map_some]
        · cases e1
      · cases e1
    · cases e1
  · cases e2
theorem chg_app {ety : Ty} {y : T} (h : hasTy ety y) : chg ety (appV y) := by
  intro t t' e
  cases t <;> simp only [appV] at e <;> (try cases e)
  split at e
  · cases e
    refine ⟨_, _, rfl, rfl, fun z m => ?_⟩
    rcases List.mem_append.mp m with m | m
    · exact .inl m
    · simp at m; subst m; exact .inr h
  · cases e
theorem chg_set {ety : Ty} {k : Int} {y : T} (h : hasTy ety y) : chg ety (setV k y) := by
  intro t t' e
  cases t <;> simp only [setV] at e <;> (try cases e)
  obtain ⟨j, _, rfl⟩ := Option.map_eq_some_iff.mp e
  refine ⟨_, _, rfl, rfl, fun z m => ?_⟩
  rcases mem_set' m with m | m
  · exact .inl m
  · subst m; exact .inr h
theorem mod_ok {i n : Nat} {ks : List Int} {f : T → Option T} {ety : Ty} {eo : AO} {oy : Own} {s s' : AE} {p p' : PE} {ρ : Env} (hf : chg ety f) (hn : ks.length = n) (ho : okO eo oy) (hR : Rel s p ρ) (e : modA i n ety eo s = some s') (hp : pmod i ks f p = some p') : ∃ ρ', modS i ks f oy ρ = some ρ' ∧ Rel s' p' ρ' := by
  unfold modA at e
  split at e
  · rename_i ty o e1
    obtain ⟨o', e2, rfl⟩ := Option.map_eq_some_iff.mp e
    unfold pmod at hp
    obtain ⟨t, b1, hp⟩ := obind hp
    obtain ⟨t', b2, rfl⟩ := Option.map_eq_some_iff.mp hp
    obtain ⟨r1, od, r2, r3⟩ := hR.at_ _ _ _ _ e1 (pget_some.mp b1)
    have ht := appTy_ok hf r1 b2
    rw [hn] at ht
    have hi : i < ρ.length := (List.getElem?_eq_some_iff.mp r2).1
    have hm : ∃ o2, modO (!ks.isEmpty) t od oy = some o2 ∧ okO o' o2 := by
      have hd : (n != 0) = !ks.isEmpty := by
        subst hn; cases ks <;> rfl
      rw [hd] at e2
      cases hk : (!ks.isEmpty)
      · have hl : ∃ xs, t = .lst xs := by
          cases ks with
          | cons _ _ => simp at hk
          | nil => obtain ⟨xs, _, q, _⟩ := hf _ _ b2; exact ⟨xs, q⟩
        obtain ⟨xs, rfl⟩ := hl
        rw [hk] at e2
        cases o <;> simp only [modAO] at e2
        · cases r3
          split at e2
          · rename_i hf'
            cases e2
            cases eo <;> simp [AO.isFull] at hf'
            cases ho
            exact ⟨.full, rfl, rfl⟩
          · simp at e2
            subst e2
            cases oy <;> first | exact ⟨.full, rfl, by simp [okO]⟩ | exact ⟨.shal, rfl, by simp [okO]⟩
        · simp at e2
          subst e2
          rcases r3 with rfl | rfl
          · cases oy <;> first | exact ⟨.full, rfl, by simp [okO]⟩ | exact ⟨.shal, rfl, by simp [okO]⟩
          · exact ⟨.shal, by cases oy <;> rfl, by simp [okO]⟩
        · cases e2
      · rw [hk] at e2
        cases o <;> simp only [modAO] at e2
        · cases r3
          split at e2
          · rename_i hf'
            cases e2
            cases eo <;> simp [AO.isFull] at hf'
            cases ho
            exact ⟨.full, rfl, rfl⟩
          · simp at e2
        · simp at e2
        · cases e2
    obtain ⟨o2, m1, m2⟩ := hm
    exact ⟨_, by simp [modS, r2, b2, m1], hR.set ht m2 hi⟩
  · cases e
section
variable {rt : Ty} {ro : AO}
def BOK (rt : Ty) (ro : AO) (dB : Env → Option Fl) (pB : PE → Option PF) (aB : AE → Option AF) : Prop := ∀ s p ρ r pf, Rel s p ρ → aB s = some r → pB p = some pf → ∃ fl, dB ρ = some fl ∧ FlR rt ro r pf fl
theorem leO_ok {a : Option AE} {s s1 : AE} {p : PE} {ρ : Env} (h : leO a s = true) (e : a = some s1) (hR : Rel s1 p ρ) : Rel s p ρ := by
  subst e
  exact hR.le h
theorem outA_l {s s' : AE} {b : Option AE} {p : PE} {ρ : Env} (e : outA s b = some s') (h : Rel s p ρ) : Rel s' p ρ := by
  cases b with
  | none => cases e; exact h
  | some b => exact jnA_l e h
theorem outA_r {s s' b' : AE} {b : Option AE} {p : PE} {ρ : Env} (e : outA s b = some s') (hb : b = some b') (h : Rel b' p ρ) : Rel s' p ρ := by
  subst hb
  exact jnA_r e h
theorem for_ok {dB pB aB} (hB : BOK rt ro dB pB aB) {tg : Tg} {ty : Ty} {s out : AE} {r : AF} (hf : (bindA tg ty .cold s).bind aB = some r) (h1 : leO r.nx s = true) (h2 : leO r.ct s = true) (ho : outA s r.bk = some out) :
    ∀ (xs : List T) (p : PE) (ρ : Env) (pf : PF), Rel s p ρ → (∀ x ∈ xs, hasTy ty x) → forP (fun x p => pbind tg x p) pB xs p = some pf → ∃ fl, forLoop (fun x ρ => bindT tg x .cold ρ) dB xs ρ = some fl ∧ FlR rt ro (nxA out) pf fl
  | [], p, ρ, pf, hR, _, e => by
    cases e
    exact ⟨.nx ρ, rfl, out, rfl, outA_l ho hR⟩
  | x :: xs, p, ρ, pf, hR, hx, e => by
    obtain ⟨s1, a1, a2⟩ := obind hf
    simp only [forP] at e
    obtain ⟨p1, b1, e⟩ := obind e
    obtain ⟨f, b2, e⟩ := obind e
    obtain ⟨ρ1, c1, k1⟩ := bind_ok (o := .cold) b1 a1 (hx x (by simp)) (by simp [okO]) hR
    obtain ⟨fl, c2, k2⟩ := hB _ _ _ _ _ k1 a2 b2
    have step : forLoop (fun x ρ => bindT tg x .cold ρ) dB (x :: xs) ρ = fl.turn (forLoop (fun x ρ => bindT tg x .cold ρ) dB xs) := by
      conv => lhs; unfold forLoop
      simp only [c1, c2, Option.bind_some]
    rw [step]
    cases f <;> cases fl <;> simp only [FlR] at k2
    · obtain ⟨s2, q1, q2⟩ := k2
      exact for_ok hB hf h1 h2 ho xs _ _ pf (leO_ok h1 q1 q2) (fun y m => hx y (by simp [m])) e
    · obtain ⟨rfl, q2, q3⟩ := k2
      cases e
      exact ⟨_, rfl, rfl, q2, q3⟩
    · obtain ⟨s2, q1, q2⟩ := k2
      cases e
      exact ⟨_, rfl, out, rfl, outA_r ho q1 q2⟩
    · obtain ⟨s2, q1, q2⟩ := k2
      exact for_ok hB hf h1 h2 ho xs _ _ pf (leO_ok h2 q1 q2) (fun y m => hx y (by simp [m])) e
theorem whl_ok {dT pT aT dB pB aB} (hT : TOK dT pT aT) (hB : BOK rt ro dB pB aB) {s s2 out : AE} {r : AF} (hf : (aT s).bind aB = some r) (h1 : leO r.nx s = true) (h2 : leO r.ct s = true) (hs : aT s = some s2) (ho : outA s2 r.bk = some out) :
    ∀ (n : Nat) (p : PE) (ρ : Env) (pf : PF), Rel s p ρ → whlP pT pB n p = some pf → ∃ fl, whlLoop dT dB n ρ = some fl ∧ FlR rt ro (nxA out) pf fl
  | 0, p, ρ, pf, hR, e => by simp [whlP] at e
  | n + 1, p, ρ, pf, hR, e => by
    have a2 : aB s2 = some r := by rw [hs] at hf; exact hf
    simp only [whlP] at e
    obtain ⟨k, b1, e⟩ := obind e
    obtain ⟨ρ1, c1, k1⟩ := hT _ _ _ _ _ hR hs b1
    split at e
    · rename_i hk
      obtain ⟨f, b2, e⟩ := obind e
      obtain ⟨fl, c2, k2⟩ := hB _ _ _ _ _ k1 a2 b2
      have step : whlLoop dT dB (n + 1) ρ = fl.turn (whlLoop dT dB n) := by
        conv => lhs; unfold whlLoop
        simp only [c1, c2, Option.bind_some, hk, if_true]
      rw [step]
      cases f <;> cases fl <;> simp only [FlR] at k2
      · obtain ⟨s3, q1, q2⟩ := k2
        exact whl_ok hT hB hf h1 h2 hs ho n _ _ pf (leO_ok h1 q1 q2) e
      · obtain ⟨rfl, q2, q3⟩ := k2
        cases e
        exact ⟨_, rfl, rfl, q2, q3⟩
      · obtain ⟨s3, q1, q2⟩ := k2
        cases e
        exact ⟨_, rfl, out, rfl, outA_r ho q1 q2⟩
      · obtain ⟨s3, q1, q2⟩ := k2
        exact whl_ok hT hB hf h1 h2 hs ho n _ _ pf (leO_ok h2 q1 q2) e
    · rename_i hk
      cases e
      refine ⟨.nx ρ1, ?_, out, rfl, outA_l ho k1⟩
      conv => lhs; unfold whlLoop
      simp [c1, hk]
theorem FlR.mono {r r' : AF} {pf : PF} {fl : Fl} (h : FlR rt ro r pf fl) (h1 : ∀ s p ρ, r.nx = some s → Rel s p ρ → ∃ s', r'.nx = some s' ∧ Rel s' p ρ) (h2 : ∀ s p ρ, r.bk = some s → Rel s p ρ → ∃ s', r'.bk = some s' ∧ Rel s' p ρ) (h3 : ∀ s p ρ, r.ct = some s → Rel s p ρ → ∃ s', r'.ct = some s' ∧ Rel s' p ρ) : FlR rt ro r' pf fl := by
  cases pf <;> cases fl <;> simp only [FlR] at h ⊢
  · obtain ⟨s, a, b⟩ := h; exact h1 s _ _ a b
  · exact h
  · obtain ⟨s, a, b⟩ := h; exact h2 s _ _ a b
  · obtain ⟨s, a, b⟩ := h; exact h3 s _ _ a b
end
section
variable {G : List Nat → Option T} {sig : Sig} {C : List Nat → List T → Option (T × Own)} {PC : List Nat → List T → Option T} {rt : Ty} {ro : AO}
theorem pIs_len : ∀ (es : List E) {p : PE} {ks : List Int}, pIs (pdenL G PC es) p = some ks → ks.length = es.length := by
  intro es
  induction es with
  | nil => intro p ks h; simp only [pdenL, pIs] at h; cases h; rfl
  | cons e es ih =>
    intro p ks h
    simp only [pdenL, pIs] at h
    obtain ⟨_, _, h⟩ := obind h
    obtain ⟨_, _, h⟩ := obind h
    obtain ⟨z, h1, rfl⟩ := Option.map_eq_some_iff.mp h
    simp [ih h1]
mutual
theorem okSt (K : CallOk G sig C PC) : ∀ st : S, BOK rt ro (exS G C st) (pS G PC st) (aS G sig rt ro st)
  | .set i e => by
    intro s p ρ r pf hR e1 e2
    simp only [aS] at e1
    obtain ⟨r0, a1, e1⟩ := obind e1
    obtain ⟨x, a2, e1⟩ := obind e1
    obtain ⟨s', a3, rfl⟩ := Option.map_eq_some_iff.mp e1
    simp only [pS] at e2
    obtain ⟨t, b1, e2⟩ := obind e2
    obtain ⟨p', b2, rfl⟩ := Option.map_eq_some_iff.mp e2
    obtain ⟨o, ρ1, c1, k1, k2, k3⟩ := (okD K e).v _ _ _ _ _ hR a1 b1
    obtain ⟨o', ρ2, c2, k4, k5, k6⟩ := valA_ok k1 k3 a2
    rw [← k6] at k2
    obtain ⟨ρ3, c3, k7⟩ := bind_ok b2 a3 k2 k5 k4
    exact ⟨.nx ρ3, by rw [exS_set, c1, Option.bind_some, c2, Option.bind_some, c3]; rfl, s', rfl, k7⟩
  | .setc i elt tg it ifs own => by
    intro s p ρ r pf hR e1 e2
    simp only [aS] at e1
    obtain ⟨r0, a1, e1⟩ := obind e1
    split at e1
    · rename_i a ha
      obtain ⟨s', a3, rfl⟩ := Option.map_eq_some_iff.mp e1
      simp only [pS] at e2
      obtain ⟨t, b1, e2⟩ := obind e2
      obtain ⟨p', b2, rfl⟩ := Option.map_eq_some_iff.mp e2
      obtain ⟨o, ρ1, c1, k1, k2, k3⟩ := (okD K (.lc elt tg it ifs own)).v _ _ _ _ _ hR a1 b1
      rw [ha] at k3
      obtain ⟨ρ3, c3, k7⟩ := bind_ok b2 a3 k2 k3 k1
      exact ⟨.nx ρ3, by rw [exS_setc, c1, Option.bind_some, c3]; rfl, s', rfl, k7⟩
    · cases e1
  | .asg tg e => by
    intro s p ρ r pf hR e1 e2
    simp only [aS] at e1
    obtain ⟨r0, a1, e1⟩ := obind e1
    obtain ⟨x, a2, e1⟩ := obind e1
    obtain ⟨s', a3, rfl⟩ := Option.map_eq_some_iff.mp e1
    simp only [pS] at e2
    obtain ⟨t, b1, e2⟩ := obind e2
    obtain ⟨p', b2, rfl⟩ := Option.map_eq_some_iff.mp e2
    obtain ⟨o, ρ1, c1, k1, k2, k3⟩ := (okD K e).v _ _ _ _ _ hR a1 b1
    obtain ⟨o', ρ2, c2, k4, k5, k6⟩ := valA_ok k1 k3 a2
    rw [← k6] at k2
    obtain ⟨ρ3, c3, k7⟩ := bind_ok b2 a3 k2 k5 k4
    exact ⟨.nx ρ3, by rw [exS_asg, c1, Option.bind_some, c2, Option.bind_some, c3]; rfl, s', rfl, k7⟩
  | .par i j a b => by
    intro s p ρ r pf hR e1 e2
    simp only [aS] at e1
    obtain ⟨r0, a1, e1⟩ := obind e1
    obtain ⟨x, a2, e1⟩ := obind e1
    obtain ⟨r1, a3, e1⟩ := obind e1
    obtain ⟨y, a4, e1⟩ := obind e1
    obtain ⟨s1, a5, e1⟩ := obind e1
    obtain ⟨s', a6, rfl⟩ := Option.map_eq_some_iff.mp e1
    simp only [pS] at e2
    obtain ⟨t, b1, e2⟩ := obind e2
    obtain ⟨u, b2, e2⟩ := obind e2
    obtain ⟨p1, b3, e2⟩ := obind e2
    obtain ⟨p', b4, rfl⟩ := Option.map_eq_some_iff.mp e2
    obtain ⟨o, ρ1, c1, k1, k2, k3⟩ := (okD K a).v _ _ _ _ _ hR a1 b1
    obtain ⟨o', ρ2, c2, k4, k5, k6⟩ := valA_ok k1 k3 a2
    obtain ⟨o2, ρ3, c3, l1, l2, l3⟩ := (okD K b).v _ _ _ _ _ k4 a3 b2
    obtain ⟨o3, ρ4, c4, l4, l5, l6⟩ := valA_ok l1 l3 a4
    rw [← k6] at k2
    rw [← l6] at l2
    obtain ⟨ρ5, c5, k7⟩ := bind_ok b3 a5 k2 k5 l4
    obtain ⟨ρ6, c6, k8⟩ := bind_ok b4 a6 l2 l5 k7
    exact ⟨.nx ρ6, by rw [exS_par, c1, Option.bind_some, c2, Option.bind_some, c3, Option.bind_some, c4, Option.bind_some, c5, Option.bind_some, c6]; rfl, s', rfl, k8⟩
  | .aug i op e => by
    intro s p ρ r pf hR e1 e2
    simp only [aS] at e1
    split at e1
    · rename_i hl
      obtain ⟨r0, a1, e1⟩ := obind e1
      obtain ⟨s', a3, rfl⟩ := Option.map_eq_some_iff.mp e1
      simp only [pS] at e2
      obtain ⟨x, b1, e2⟩ := obind e2
      obtain ⟨y, b2, e2⟩ := obind e2
      obtain ⟨z, b3, e2⟩ := obind e2
      obtain ⟨p', b4, rfl⟩ := Option.map_eq_some_iff.mp e2
      obtain ⟨ox, c0⟩ := liveA_ok hl hR b1
      obtain ⟨o, ρ1, c1, k1, k2, k3⟩ := (okD K e).v _ _ _ _ _ hR a1 b2
      obtain ⟨ρ3, c3, k7⟩ := bind_ok (o := .full) b4 a3 (hasTy_nl.mpr (aug_nl b3).2) rfl k1
      exact ⟨.nx ρ3, by rw [exS_aug, c0]; simp only [c1, Option.bind_some, b3]; rw [c3]; rfl, s', rfl, k7⟩
    · cases e1
  | .app i ixs e => by
    intro s p ρ r pf hR e1 e2
    simp only [aS] at e1
    split at e1
    · rename_i hl
      obtain ⟨s1, a0, e1⟩ := obind e1
      obtain ⟨r0, a1, e1⟩ := obind e1
      obtain ⟨x, a2, e1⟩ := obind e1
      obtain ⟨s', a3, rfl⟩ := Option.map_eq_some_iff.mp e1
      simp only [pS] at e2
      obtain ⟨t, b1, e2⟩ := obind e2
      split at e2
      · cases e2
      · rename_i hro
        obtain ⟨ks, b2, e2⟩ := obind e2
        obtain ⟨y, b3, e2⟩ := obind e2
        obtain ⟨p', b4, rfl⟩ := Option.map_eq_some_iff.mp e2
        obtain ⟨ox, c0⟩ := liveA_ok hl hR b1
        obtain ⟨ρ0, cc, k0⟩ := evIs_ok (okDL K ixs) hR a0 b2
        obtain ⟨o, ρ1, c1, k1, k2, k3⟩ := (okD K e).v _ _ _ _ _ k0 a1 b3
        obtain ⟨o', ρ2, c2, k4, k5, k6⟩ := valA_ok k1 k3 a2
        rw [← k6] at k2
        have hlen : ks.length = ixs.length := by
          have : ∀ (es : List E) {p : PE} {ks : List Int}, pIs (pdenL G PC es) p = some ks → ks.length = es.length := by
            intro es
            induction es with
            | nil => intro p ks h; simp only [pdenL, pIs] at h; cases h; rfl
            | cons e es ih =>
              intro p ks h
              simp only [pdenL, pIs] at h
              obtain ⟨_, _, h⟩ := obind h
              obtain ⟨_, _, h⟩ := obind h
              obtain ⟨z, h1, rfl⟩ := Option.map_eq_some_iff.mp h
              simp [ih h1]
          exact this ixs b2
        obtain ⟨ρ3, c3, k7⟩ := mod_ok (chg_app k2) hlen k5 k4 a3 b4
        refine ⟨.nx ρ3, ?_, s', rfl, k7⟩
        rw [exS_app, c0]
        simp [hro, cc, c1, c2, c3]
    · cases e1
  | .seti i ixs k e => by
    intro s p ρ r pf hR e1 e2
    simp only [aS] at e1
    obtain ⟨r0, a1, e1⟩ := obind e1
    obtain ⟨x, a2, e1⟩ := obind e1
    split at e1
    · rename_i hl
      obtain ⟨s1, a0, e1⟩ := obind e1
      obtain ⟨rk, a4, e1⟩ := obind e1
      obtain ⟨s', a3, rfl⟩ := Option.map_eq_some_iff.mp e1
      simp only [pS] at e2
      obtain ⟨y, b3, e2⟩ := obind e2
      obtain ⟨t, b1, e2⟩ := obind e2
      obtain ⟨ks, b2, e2⟩ := obind e2
      obtain ⟨kt, b5, e2⟩ := obind e2
      obtain ⟨kv, b6, e2⟩ := obind e2
      obtain ⟨p', b4, rfl⟩ := Option.map_eq_some_iff.mp e2
      obtain ⟨o, ρ1, c1, k1, k2, k3⟩ := (okD K e).v _ _ _ _ _ hR a1 b3
      obtain ⟨o', ρ2, c2, k4, k5, k6⟩ := valA_ok k1 k3 a2
      rw [← k6] at k2
      obtain ⟨ox, c0⟩ := liveA_ok hl k4 b1
      obtain ⟨ρ0, cc, k0⟩ := evIs_ok (okDL K ixs) k4 a0 b2
      obtain ⟨ok, ρ4, c4, l1, l2, l3⟩ := (okD K k).v _ _ _ _ _ k0 a4 b5
      have hlen : ks.length = ixs.length := by
        have : ∀ (es : List E) {p : PE} {ks : List Int}, pIs (pdenL G PC es) p = some ks → ks.length = es.length := by
          intro es
          induction es with
          | nil => intro p ks h; simp only [pdenL, pIs] at h; cases h; rfl
          | cons e es ih =>
            intro p ks h
            simp only [pdenL, pIs] at h
            obtain ⟨_, _, h⟩ := obind h
            obtain ⟨_, _, h⟩ := obind h
            obtain ⟨z, h1, rfl⟩ := Option.map_eq_some_iff.mp h
            simp [ih h1]
        exact this ixs b2
      cases kt <;> simp [intT] at b6
      subst b6
      obtain ⟨ρ3, c3, k7⟩ := mod_ok (chg_set k2) hlen k5 l1 a3 b4
      refine ⟨.nx ρ3, ?_, s', rfl, k7⟩
      rw [exS_seti]
      simp only [c1, Option.bind_some, c2, c0, cc, c4, c3, Option.map_some]
    · cases e1
  | .asr cs i ixs f j jxs => by
    intro s p ρ r pf hR e1 e2
    simp only [aS] at e1
    split at e1
    · rename_i hl
      obtain ⟨s0, a0, e1⟩ := obind e1
      obtain ⟨s1, a1, e1⟩ := obind e1
      obtain ⟨s2, a2, e1⟩ := obind e1
      obtain ⟨s', a3, rfl⟩ := Option.map_eq_some_iff.mp e1
      simp only [pS] at e2
      obtain ⟨b, b0, e2⟩ := obind e2
      obtain ⟨ρ0, c0, k0⟩ := orF_ok (okDL K cs) hR a0 b0
      cases b with
      | true =>
        cases e2
        exact ⟨.rt (.bl false) .full, by rw [exS_asr, c0]; rfl, rfl, le_ok hl (hasTy_nl.mpr rfl), okO_full⟩
      | false =>
        simp only [Bool.false_eq_true, if_false] at e2
        obtain ⟨ks, b1, e2⟩ := obind e2
        obtain ⟨ls, b2, e2⟩ := obind e2
        obtain ⟨p', b3, rfl⟩ := Option.map_eq_some_iff.mp e2
        obtain ⟨ρ1, c1, k1⟩ := evIs_ok (okDL K ixs) (k0 rfl) a1 b1
        obtain ⟨ρ2, c2, k2⟩ := evIs_ok (okDL K jxs) k1 a2 b2
        rw [← pIs_len ixs b1, ← pIs_len jxs b2] at a3
        obtain ⟨ρ3, c3, k3⟩ := own_ok K k2 a3 b3
        refine ⟨.nx ρ3, ?_, s', rfl, k3⟩
        rw [exS_asr, c0]
        simp only [Option.bind_some, Bool.false_eq_true, if_false, c1, c2, c3, if_true]
    · cases e1
  | .exp e => by
    intro s p ρ r pf hR e1 e2
    simp only [aS] at e1
    obtain ⟨r0, a1, rfl⟩ := Option.map_eq_some_iff.mp e1
    simp only [pS] at e2
    obtain ⟨t, b1, rfl⟩ := Option.map_eq_some_iff.mp e2
    obtain ⟨o, ρ1, c1, k1, k2, k3⟩ := (okD K e).v _ _ _ _ _ hR a1 b1
    exact ⟨.nx ρ1, by rw [exS_exp, c1]; rfl, _, rfl, k1⟩
  | .ret e => by
    intro s p ρ r pf hR e1 e2
    simp only [aS] at e1
    obtain ⟨r0, a1, e1⟩ := obind e1
    obtain ⟨x, a2, e1⟩ := obind e1
    split at e1
    · rename_i hl
      cases e1
      simp only [Bool.and_eq_true] at hl
      simp only [pS] at e2
      obtain ⟨t, b1, rfl⟩ := Option.map_eq_some_iff.mp e2
      obtain ⟨o, ρ1, c1, k1, k2, k3⟩ := (okD K e).v _ _ _ _ _ hR a1 b1
      obtain ⟨o', ρ2, c2, k4, k5, k6⟩ := valA_ok k1 k3 a2
      rw [← k6] at k2
      exact ⟨.rt t o', by rw [exS_ret, c1, Option.bind_some, c2]; rfl, rfl, le_ok hl.1 k2, okO_le hl.2 k5⟩
    · cases e1
  | .retN => by
    intro s p ρ r pf hR e1 e2
    simp only [aS] at e1
    split at e1
    · rename_i hl
      cases e1
      simp only [pS] at e2
      cases e2
      exact ⟨.rt .non .full, by rw [exS_retN], rfl, le_ok hl (hasTy_nl.mpr rfl), okO_full⟩
    · cases e1
  | .ite c a b => by
    intro s p ρ r pf hR e1 e2
    simp only [aS] at e1
    obtain ⟨s1, a1, e1⟩ := obind e1
    obtain ⟨x, a2, e1⟩ := obind e1
    obtain ⟨y, a3, e1⟩ := obind e1
    unfold jnF at e1
    obtain ⟨j1, a4, e1⟩ := obind e1
    obtain ⟨j2, a5, e1⟩ := obind e1
    obtain ⟨j3, a6, rfl⟩ := Option.map_eq_some_iff.mp e1
    simp only [pS] at e2
    obtain ⟨k, b1, e2⟩ := obind e2
    obtain ⟨ρ1, c1, k1⟩ := (okD K c).t _ _ _ _ _ hR a1 b1
    cases k
    · obtain ⟨fl, c2, k2⟩ := okSts K b _ _ _ _ _ k1 a3 (by simpa using e2)
      refine ⟨fl, by rw [exS_ite, c1]; simpa using c2, k2.mono (fun s p ρ e h => jnO_r a4 e h) (fun s p ρ e h => jnO_r a5 e h) (fun s p ρ e h => jnO_r a6 e h)⟩
    · obtain ⟨fl, c2, k2⟩ := okSts K a _ _ _ _ _ k1 a2 (by simpa using e2)
      refine ⟨fl, by rw [exS_ite, c1]; simpa using c2, k2.mono (fun s p ρ e h => jnO_l a4 e h) (fun s p ρ e h => jnO_l a5 e h) (fun s p ρ e h => jnO_l a6 e h)⟩
  | .whl c b => by
    intro s p ρ r pf hR e1 e2
    simp only [aS] at e1
    obtain ⟨x, a1, e1⟩ := obind e1
    split at e1
    · rename_i hl
      obtain ⟨s2, a2, e1⟩ := obind e1
      obtain ⟨out, a3, rfl⟩ := Option.map_eq_some_iff.mp e1
      obtain ⟨f1, f2, f3⟩ := fixW_ok a1
      simp only [pS] at e2
      obtain ⟨fl, c1, k1⟩ := whl_ok (okD K c).t (okSts K b) f1 f2 f3 a2 a3 whlMost p ρ pf (hR.le hl) e2
      exact ⟨fl, by rw [exS_whl]; exact c1, k1⟩
    · cases e1
  | .for_ tg it b => by
    intro s p ρ r pf hR e1 e2
    simp only [aS] at e1
    obtain ⟨y, a0, e1⟩ := obind e1
    obtain ⟨x, a1, e1⟩ := obind e1
    split at e1
    · rename_i hl
      obtain ⟨out, a3, rfl⟩ := Option.map_eq_some_iff.mp e1
      obtain ⟨f1, f2, f3⟩ := fixW_ok a1
      simp only [pS] at e2
      obtain ⟨xs, b1, e2⟩ := obind e2
      obtain ⟨ρ1, c0, k0, k00⟩ := (okD K it).i _ _ _ _ _ hR a0 b1
      obtain ⟨fl, c1, k1⟩ := for_ok (okSts K b) f1 f2 f3 a3 xs p ρ1 pf (k0.le hl) k00 e2
      exact ⟨fl, by rw [exS_for_, c0]; exact c1, k1⟩
    · cases e1
  | .pass => by
    intro s p ρ r pf hR e1 e2
    simp only [aS] at e1
    simp only [pS] at e2
    cases e1; cases e2
    exact ⟨.nx ρ, by rw [exS_pass], s, rfl, hR⟩
  | .brk => by
    intro s p ρ r pf hR e1 e2
    simp only [aS] at e1
    simp only [pS] at e2
    cases e1; cases e2
    exact ⟨.bk ρ, by rw [exS_brk], s, rfl, hR⟩
  | .cnt => by
    intro s p ρ r pf hR e1 e2
    simp only [aS] at e1
    simp only [pS] at e2
    cases e1; cases e2
    exact ⟨.ct ρ, by rw [exS_cnt], s, rfl, hR⟩
theorem okSts (K : CallOk G sig C PC) : ∀ ss : List S, BOK rt ro (exSs G C ss) (pSs G PC ss) (aSs G sig rt ro ss)
  | [] => by
    intro s p ρ r pf hR e1 e2
    simp only [aSs] at e1
    simp only [pSs] at e2
    cases e1; cases e2
    exact ⟨.nx ρ, by rw [exSs_nil], s, rfl, hR⟩
  | st :: ss => by
    intro s p ρ r pf hR e1 e2
    simp only [aSs] at e1
    obtain ⟨r1, a1, e1⟩ := obind e1
    simp only [pSs] at e2
    obtain ⟨f, b1, e2⟩ := obind e2
    obtain ⟨fl, c1, k1⟩ := okSt K st _ _ _ _ _ hR a1 b1
    have hsq : ∀ fl', fl.seq (exSs G C ss) = some fl' → exSs G C (st :: ss) ρ = some fl' := by
      intro fl' h
      rw [exSs_cons, c1]
      exact h
    split at e1
    · rename_i hn
      cases e1
      cases f <;> cases fl <;> simp only [FlR] at k1
      · obtain ⟨_, q, _⟩ := k1
        rw [hn] at q; cases q
      · cases e2; exact ⟨_, hsq _ rfl, k1⟩
      · cases e2; exact ⟨_, hsq _ rfl, k1⟩
      · cases e2; exact ⟨_, hsq _ rfl, k1⟩
    · rename_i s1 hn
      obtain ⟨r2, a2, e1⟩ := obind e1
      obtain ⟨y, a3, e1⟩ := obind e1
      obtain ⟨z, a4, rfl⟩ := Option.map_eq_some_iff.mp e1
      cases f <;> cases fl <;> simp only [FlR] at k1
      · obtain ⟨s1', q1, q2⟩ := k1
        rw [hn] at q1; cases q1
        obtain ⟨fl', c2, k2⟩ := okSts K ss _ _ _ _ _ q2 a2 e2
        exact ⟨fl', hsq _ c2, k2.mono (fun s p ρ e h => ⟨s, e, h⟩) (fun s p ρ e h => jnO_r a3 e h) (fun s p ρ e h => jnO_r a4 e h)⟩
      · cases e2; exact ⟨_, hsq _ rfl, k1⟩
      · obtain ⟨s1', q1, q2⟩ := k1
        cases e2; exact ⟨_, hsq _ rfl, jnO_l a3 q1 q2⟩
      · obtain ⟨s1', q1, q2⟩ := k1
        cases e2; exact ⟨_, hsq _ rfl, jnO_l a4 q1 q2⟩
end
end
def startA (n : Nat) (tys : List Ty) : AE := (tys.map fun t => some (t, if t.isNl then .full else .cold)) ++ List.replicate (n - tys.length) (some (.bot, .full))
/-- (with the first argument the def's own) -/
def startAK (own : Bool) (n : Nat) (tys : List Ty) : AE := if own then match tys with
    | [] => startA n []
    | t :: ts => some (t, .full) :: startA (n - 1) ts
  else startA n tys
def chkB (G : List Nat → Option T) (sig : Sig) (g : List Ty × Ty × AO) (d : Fn) (s : AE) : Bool := match aSs G sig g.2.1 g.2.2 d.body s with
  | some r => r.bk.isNone && r.ct.isNone && (r.nx.isNone || Ty.le .nl g.2.1)
  | none => false
def chkF (G : List Nat → Option T) (sig : Sig) (own : Bool) (g : List Ty × Ty × AO) (d : Fn) : Bool := g.1.length == d.np && chkB G sig g d (startAK own d.ns g.1)
theorem start_rel : ∀ {tys : List Ty} {ts : List T}, hasTyL tys ts → ∀ m, Rel ((tys.map fun t => some (t, if t.isNl then AO.full else .cold)) ++ List.replicate m (some (.bot, .full))) (ts.map some ++ List.replicate m none) ((ts.map fun t => some (t, if t.nl then Own.full else .cold)) ++ List.replicate m none) := by
  intro tys ts h m
  have hl := hasTyL_len h
  refine ⟨by simp, by simp [hl], fun i ty a t e1 e2 => ?_⟩
  by_cases hi : i < ts.length
  · rw [List.getElem?_append_left (by simpa using hi), List.getElem?_map] at e2
    rw [List.getElem?_append_left (by simpa [hl] using hi), List.getElem?_map] at e1
    obtain ⟨t', e3, e4⟩ := Option.map_eq_some_iff.mp e2
    cases e4
    obtain ⟨ty', e5, e6⟩ := Option.map_eq_some_iff.mp e1
    simp only [Option.some.injEq, Prod.mk.injEq] at e6
    obtain ⟨rfl, rfl⟩ := e6
    obtain ⟨a', q1, q2⟩ := hasTyL_get h e3
    rw [e5] at q1
    cases q1
    refine ⟨q2, if t.nl then .full else .cold, ?_, ?_⟩
    · rw [List.getElem?_append_left (by simpa using hi), List.getElem?_map, e3]; rfl
    · by_cases hn : ty'.isNl = true
      · simp [hn, isNl_ok hn q2, okO]
      · have : ty'.isNl = false := by simpa using hn
        rw [this]
        cases t.nl <;> simp [okO]
  · rw [List.getElem?_append_right (by simpa using hi)] at e2
    have := List.mem_of_getElem? e2
    simp at this
/-- one run of a def's body over callees C, plainly -/
def topP (G : List Nat → Option T) (C : List Nat → List T → Option T) (d : Fn) (ts : List T) : Option T := if ts.length = d.np then (pSs G C d.body (startP d.ns ts)).bind finP else none
theorem Rel.cons {s : AE} {p : PE} {ρ : Env} {ty : Ty} {a : AO} {t : T} {o : Own} (h : Rel s p ρ) (ht : hasTy ty t) (ho : okO a o) : Rel (some (ty, a) :: s) (some t :: p) (some (t, o) :: ρ) := by
  refine ⟨by simp [h.lp], by simp [h.ls], fun i ty' a' t' e1 e2 => ?_⟩
  cases i with
  | zero => simp at e1 e2; obtain ⟨rfl, rfl⟩ := e1; subst e2; exact ⟨ht, o, rfl, ho⟩
  | succ i => simpa using h.at_ i ty' a' t' (by simpa using e1) (by simpa using e2)
theorem startK_rel {f : List Nat} {tys : List Ty} {ts : List T} (h : hasTyL tys ts) (n : Nat) : Rel (startAK (isOwn f) n tys) (startP n ts) (startK f n ts) := by
  unfold startAK startK
  have plainR : ∀ {tys : List Ty} {ts : List T}, hasTyL tys ts → ∀ n, Rel (startA n tys) (startP n ts) (startE n ts) := fun {tys ts} h n => by
    have := start_rel h (n - ts.length)
    unfold startA
    rw [hasTyL_len h]
    exact this
  cases isOwn f with
  | false => exact plainR h n
  | true =>
    simp only [if_true]
    cases tys with
    | nil =>
      simp only [hasTyL] at h
      subst h
      exact plainR (by simp only [hasTyL]) n
    | cons ty tys =>
      simp only [hasTyL] at h
      obtain ⟨t, ts', rfl, h1, h2⟩ := h
      have := (plainR h2 (n - 1)).cons h1 (show okO .full .full from rfl)
      have e : startP n (t :: ts') = some t :: startP (n - 1) ts' := by
        unfold startP
        simp only [List.map_cons, List.length_cons, List.cons_append]
        congr 3
        omega
      rw [e]
      exact this
theorem fn_body {G : List Nat → Option T} {sig : Sig} {C : List Nat → List T → Option (T × Own)} {PC : List Nat → List T → Option T} {g : List Ty × Ty × AO} {d : Fn} {s : AE} {p : PE} {ρ : Env} {y : T} (ih : CallOk G sig C PC) (hk : chkB G sig g d s = true) (hR : Rel s p ρ) (h : (pSs G PC d.body p).bind finP = some y) :
    ∃ o, ((exSs G C d.body ρ).bind fun
      | .nx _ => some (.non, .full)
      | .rt t o => if o.isView then none else some (t, o)
      | _ => none) = some (y, o) ∧ okO g.2.2 o ∧ hasTy g.2.1 y := by
  obtain ⟨pf, b1, h⟩ := obind h
  unfold chkB at hk
  split at hk
  · rename_i r hr
    simp only [Bool.and_eq_true] at hk
    obtain ⟨⟨z1, z2⟩, z3⟩ := hk
    obtain ⟨fl, c1, k1⟩ := okSts ih d.body _ _ ρ r pf hR hr b1
    rw [c1, Option.bind_some]
    cases pf <;> cases fl <;> simp only [FlR] at k1
    · obtain ⟨s, q1, q2⟩ := k1
      cases h
      rw [q1] at z3
      simp at z3
      exact ⟨.full, rfl, okO_full, le_ok z3 (hasTy_nl.mpr rfl)⟩
    · obtain ⟨rfl, q2, q3⟩ := k1
      cases h
      rename_i o
      refine ⟨o, ?_, q3, q2⟩
      have : o.isView = false := by
        cases hg : g.2.2 <;> rw [hg] at q3 <;> simp only [okO] at q3
        · subst q3; rfl
        · rcases q3 with rfl | rfl <;> rfl
        · rcases q3 with rfl | rfl | rfl <;> rfl
      simp [this]
    · cases h
    · cases h
  · cases hk
theorem fn_step {G : List Nat → Option T} {sig : Sig} {C : List Nat → List T → Option (T × Own)} {PC : List Nat → List T → Option T} {g : List Ty × Ty × AO} {d : Fn} {ts : List T} {y : T} (ih : CallOk G sig C PC) (hk : chkF G sig false g d = true) (ht : hasTyL g.1 ts) (h : topP G PC d ts = some y) :
    ∃ o, topR G C d ts = some (y, o) ∧ okO g.2.2 o ∧ hasTy g.2.1 y := by
  unfold topP at h
  split at h
  · rename_i hl
    unfold chkF at hk
    simp only [Bool.and_eq_true] at hk
    obtain ⟨o, e1, e2⟩ := fn_body ih hk.2 (startK_rel (f := [1]) ht d.ns) h
    refine ⟨o, ?_, e2⟩
    unfold topR
    rw [if_pos hl]
    exact e1
  · cases h
theorem runP_ok {G : List Nat → Option T} {sig : Sig} {F : List Nat → Option Fn} (hc : ∀ f g d, sig f = some g → F f = some d → chkF G sig (isOwn f) g d = true) : ∀ n, CallOk G sig (runN G F n) (runP G F n)
  | 0 => ⟨fun f g ts y _ _ h => by simp [runP] at h⟩
  | n + 1 => by
    have ih := runP_ok hc n
    refine ⟨fun f g ts y hs ht h => ?_⟩
    simp only [runP] at h
    obtain ⟨d, hd, h⟩ := obind h
    split at h
    · rename_i hl
      have hk := hc f g d hs hd
      unfold chkF at hk
      simp only [Bool.and_eq_true] at hk
      obtain ⟨o, e1, e2⟩ := fn_body ih hk.2 (startK_rel (f := f) ht d.ns) h
      refine ⟨o, ?_, e2⟩
      simp only [runN, hd, Option.bind_some, if_pos hl]
      exact e1
    · cases h
/-- a table's check -/
def chkT (G : List Nat → Option T) (sigs : List (List Nat × (List Ty × Ty × AO))) (tab : List (List Nat × Fn)) : Bool := sigs.all fun x => match tabF tab x.1 with
  | some d => chkF G (fun f => sigs.lookup f) (isOwn x.1) x.2 d
  | none => true
theorem lookup_mem {α : Type} {l : List (List Nat × α)} {f : List Nat} {g : α} (h : l.lookup f = some g) : (f, g) ∈ l := by
  induction l with
  | nil => cases h
  | cons x l ih =>
    obtain ⟨k, v⟩ := x
    rw [List.lookup_cons] at h
    cases hb : f == k with
    | true =>
      rw [hb] at h
      cases h
      have : f = k := by simpa using hb
      subst this
      simp
    | false => rw [hb] at h; exact List.mem_cons_of_mem _ (ih h)
theorem chkT_ok {G : List Nat → Option T} {sigs tab} (h : chkT G sigs tab = true) (n : Nat) : CallOk G (fun f => sigs.lookup f) (runN G (tabF tab) n) (runP G (tabF tab) n) := by
  refine runP_ok (fun f g d h1 h2 => ?_) n
  have := List.all_eq_true.mp h (f, g) (lookup_mem h1)
  rw [h2] at this
  exact this
/-- a law's plain run -/
theorem law_plain {G : List Nat → Option T} {sigs tab} (h : chkT G sigs tab = true) {n : Nat} {f : List Nat} (hs : sigs.lookup f = some ([.lst .nl], .nl, .full)) {ns : List Int} (hr : runP G (tabF tab) n f [.lst (ns.map T.int)] = some (.bl true)) : runN G (tabF tab) n f [.lst (ns.map T.int)] = some (.bl true, .full) := by
  obtain ⟨o, h1, h2, _⟩ := (chkT_ok h n).call f _ [.lst (ns.map T.int)] (.bl true) hs (by
    simp only [hasTyL]
    refine ⟨_, _, rfl, hasTy_lst.mpr ⟨_, rfl, fun x m => ?_⟩, rfl⟩
    obtain ⟨i, _, rfl⟩ := List.mem_map.mp m
    exact hasTy_nl.mpr rfl) hr
  cases h2
  exact h1
theorem law_plain_top {G : List Nat → Option T} {sigs tab} (h : chkT G sigs tab = true) {d : Fn} (hk : chkF G (fun f => sigs.lookup f) false ([.lst .nl], .nl, .full) d = true) {n : Nat} {ns : List Int} (hr : topP G (runP G (tabF tab) n) d [.lst (ns.map T.int)] = some (.bl true)) : topR G (runN G (tabF tab) n) d [.lst (ns.map T.int)] = some (.bl true, .full) := by
  obtain ⟨o, h1, h2, _⟩ := fn_step (g := ([.lst .nl], .nl, .full)) (chkT_ok h n) hk (by
    simp only [hasTyL]
    refine ⟨_, _, rfl, hasTy_lst.mpr ⟨_, rfl, fun x m => ?_⟩, rfl⟩
    obtain ⟨i, _, rfl⟩ := List.mem_map.mp m
    exact hasTy_nl.mpr rfl) hr
  cases h2
  exact h1
end Ev
namespace Ev
open L2
open PySem (sizeLine)
section
variable {G : List Nat → Option T} {C : List Nat → List T → Option T} {p : PE}
@[simp] theorem pv_int {i} : (pden G C (.int i)).v p = (some (.int i)) := by simp only [pden]; rfl
@[simp] theorem pt_int {i} : (pden G C (.int i)).t p = ((pden G C (.int i)).v p).bind truth := by simp only [pden]; rfl
@[simp] theorem pi_int {i} : (pden G C (.int i)).i p = ((pden G C (.int i)).v p).bind itemsV := by simp only [pden]; rfl
@[simp] theorem pv_bl {b} : (pden G C (.bl b)).v p = (some (.bl b)) := by simp only [pden]; rfl
@[simp] theorem pt_bl {b} : (pden G C (.bl b)).t p = ((pden G C (.bl b)).v p).bind truth := by simp only [pden]; rfl
@[simp] theorem pi_bl {b} : (pden G C (.bl b)).i p = ((pden G C (.bl b)).v p).bind itemsV := by simp only [pden]; rfl
@[simp] theorem pv_non  : (pden G C (.non)).v p = (some .non) := by simp only [pden]; rfl
@[simp] theorem pt_non  : (pden G C (.non)).t p = ((pden G C (.non)).v p).bind truth := by simp only [pden]; rfl
@[simp] theorem pi_non  : (pden G C (.non)).i p = ((pden G C (.non)).v p).bind itemsV := by simp only [pden]; rfl
@[simp] theorem pv_str {x} : (pden G C (.str x)).v p = (some (.str x)) := by simp only [pden]; rfl
@[simp] theorem pt_str {x} : (pden G C (.str x)).t p = ((pden G C (.str x)).v p).bind truth := by simp only [pden]; rfl
@[simp] theorem pi_str {x} : (pden G C (.str x)).i p = ((pden G C (.str x)).v p).bind itemsV := by simp only [pden]; rfl
@[simp] theorem pv_var {i} : (pden G C (.var i)).v p = (p[i]?.join) := by simp only [pden]; rfl
@[simp] theorem pt_var {i} : (pden G C (.var i)).t p = ((pden G C (.var i)).v p).bind truth := by simp only [pden]; rfl
@[simp] theorem pi_var {i} : (pden G C (.var i)).i p = ((pden G C (.var i)).v p).bind itemsV := by simp only [pden]; rfl
@[simp] theorem pv_mov {i} : (pden G C (.mov i)).v p = (p[i]?.join) := by simp only [pden]; rfl
@[simp] theorem pt_mov {i} : (pden G C (.mov i)).t p = ((pden G C (.mov i)).v p).bind truth := by simp only [pden]; rfl
@[simp] theorem pi_mov {i} : (pden G C (.mov i)).i p = ((pden G C (.mov i)).v p).bind itemsV := by simp only [pden]; rfl
@[simp] theorem pv_glob {x} : (pden G C (.glob x)).v p = (G x) := by simp only [pden]; rfl
@[simp] theorem pt_glob {x} : (pden G C (.glob x)).t p = ((pden G C (.glob x)).v p).bind truth := by simp only [pden]; rfl
@[simp] theorem pi_glob {x} : (pden G C (.glob x)).i p = ((pden G C (.glob x)).v p).bind itemsV := by simp only [pden]; rfl
@[simp] theorem pv_bin {op a b} : (pden G C (.bin op a b)).v p = (((pden G C a).v p).bind fun x => ((pden G C b).v p).bind fun y => binV op x y) := by simp only [pden]; rfl
@[simp] theorem pt_bin {op a b} : (pden G C (.bin op a b)).t p = ((pden G C (.bin op a b)).v p).bind truth := by simp only [pden]; rfl
@[simp] theorem pi_bin {op a b} : (pden G C (.bin op a b)).i p = ((pden G C (.bin op a b)).v p).bind itemsV := by simp only [pden]; rfl
@[simp] theorem pv_neg {a} : (pden G C (.neg a)).v p = (((pden G C a).v p).bind negV) := by simp only [pden]; rfl
@[simp] theorem pt_neg {a} : (pden G C (.neg a)).t p = ((pden G C (.neg a)).v p).bind truth := by simp only [pden]; rfl
@[simp] theorem pi_neg {a} : (pden G C (.neg a)).i p = ((pden G C (.neg a)).v p).bind itemsV := by simp only [pden]; rfl
@[simp] theorem pv_cmp {op a b} : (pden G C (.cmp op a b)).v p = (((pden G C a).v p).bind fun x => ((pden G C b).v p).bind fun y => (cmpV op x y).map .bl) := by simp only [pden]; rfl
@[simp] theorem pt_cmp {op a b} : (pden G C (.cmp op a b)).t p = ((pden G C (.cmp op a b)).v p).bind truth := by simp only [pden]; rfl
@[simp] theorem pi_cmp {op a b} : (pden G C (.cmp op a b)).i p = ((pden G C (.cmp op a b)).v p).bind itemsV := by simp only [pden]; rfl
@[simp] theorem pv_chain {op op' a b c} : (pden G C (.chain op op' a b c)).v p = (((pden G C a).v p).bind fun x => ((pden G C b).v p).bind fun y => (cmpV op x y).bind fun k => if k then ((pden G C c).v p).bind fun z => (cmpV op' y z).map .bl else some (.bl false)) := by simp only [pden]; rfl
@[simp] theorem pt_chain {op op' a b c} : (pden G C (.chain op op' a b c)).t p = ((pden G C (.chain op op' a b c)).v p).bind truth := by simp only [pden]; rfl
@[simp] theorem pi_chain {op op' a b c} : (pden G C (.chain op op' a b c)).i p = ((pden G C (.chain op op' a b c)).v p).bind itemsV := by simp only [pden]; rfl
@[simp] theorem pv_tup {es} : (pden G C (.tup es)).v p = ((pL (pdenL G C es) p).bind tupV) := by simp only [pden]; rfl
@[simp] theorem pt_tup {es} : (pden G C (.tup es)).t p = ((pden G C (.tup es)).v p).bind truth := by simp only [pden]; rfl
@[simp] theorem pi_tup {es} : (pden G C (.tup es)).i p = ((pden G C (.tup es)).v p).bind itemsV := by simp only [pden]; rfl
@[simp] theorem pv_lst {es} : (pden G C (.lst es)).v p = ((pL (pdenL G C es) p).bind lstV) := by simp only [pden]; rfl
@[simp] theorem pt_lst {es} : (pden G C (.lst es)).t p = ((pden G C (.lst es)).v p).bind truth := by simp only [pden]; rfl
@[simp] theorem pi_lst {es} : (pden G C (.lst es)).i p = ((pden G C (.lst es)).v p).bind itemsV := by simp only [pden]; rfl
@[simp] theorem pv_ix {a i} : (pden G C (.ix a i)).v p = (((pden G C a).v p).bind fun x => ((pden G C i).v p).bind fun y => ixV x y) := by simp only [pden]; rfl
@[simp] theorem pt_ix {a i} : (pden G C (.ix a i)).t p = ((pden G C (.ix a i)).v p).bind truth := by simp only [pden]; rfl
@[simp] theorem pi_ix {a i} : (pden G C (.ix a i)).i p = ((pden G C (.ix a i)).v p).bind itemsV := by simp only [pden]; rfl
@[simp] theorem pv_sl {a lo hi} : (pden G C (.sl a lo hi)).v p = (((pden G C a).v p).bind fun x => (pO (pdenL G C lo) p).bind fun l => (pO (pdenL G C hi) p).bind fun h => slV l h x) := by simp only [pden]; rfl
@[simp] theorem pt_sl {a lo hi} : (pden G C (.sl a lo hi)).t p = ((pden G C (.sl a lo hi)).v p).bind truth := by simp only [pden]; rfl
@[simp] theorem pi_sl {a lo hi} : (pden G C (.sl a lo hi)).i p = ((pden G C (.sl a lo hi)).v p).bind itemsV := by simp only [pden]; rfl
@[simp] theorem pv_rev {a} : (pden G C (.rev a)).v p = (((pden G C a).v p).bind revV) := by simp only [pden]; rfl
@[simp] theorem pt_rev {a} : (pden G C (.rev a)).t p = ((pden G C (.rev a)).v p).bind truth := by simp only [pden]; rfl
@[simp] theorem pi_rev {a} : (pden G C (.rev a)).i p = ((pden G C (.rev a)).v p).bind itemsV := by simp only [pden]; rfl
@[simp] theorem pv_call {f es} : (pden G C (.call f es)).v p = ((pL (pdenL G C es) p).bind (C f)) := by simp only [pden]; rfl
@[simp] theorem pt_call {f es} : (pden G C (.call f es)).t p = ((pden G C (.call f es)).v p).bind truth := by simp only [pden]; rfl
@[simp] theorem pi_call {f es} : (pden G C (.call f es)).i p = ((pden G C (.call f es)).v p).bind itemsV := by simp only [pden]; rfl
@[simp] theorem pv_blt {f es} : (pden G C (.blt f es)).v p = ((pL (pdenL G C es) p).bind (bltV f)) := by simp only [pden]; rfl
@[simp] theorem pt_blt {f es} : (pden G C (.blt f es)).t p = ((pden G C (.blt f es)).v p).bind truth := by simp only [pden]; rfl
@[simp] theorem pi_blt {f es} : (pden G C (.blt f es)).i p = ((pden G C (.blt f es)).v p).bind itemsV := by simp only [pden]; rfl
@[simp] theorem pv_isi {a c} : (pden G C (.isi a c)).v p = (((pden G C a).v p).map fun x => .bl (isiV c x)) := by simp only [pden]; rfl
@[simp] theorem pt_isi {a c} : (pden G C (.isi a c)).t p = ((pden G C (.isi a c)).v p).bind truth := by simp only [pden]; rfl
@[simp] theorem pi_isi {a c} : (pden G C (.isi a c)).i p = ((pden G C (.isi a c)).v p).bind itemsV := by simp only [pden]; rfl
@[simp] theorem pv_meth {f a es} : (pden G C (.meth f a es)).v p = (((pden G C a).v p).bind fun x => (pL (pdenL G C es) p).bind (methV f x)) := by simp only [pden]; rfl
@[simp] theorem pt_meth {f a es} : (pden G C (.meth f a es)).t p = ((pden G C (.meth f a es)).v p).bind truth := by simp only [pden]; rfl
@[simp] theorem pi_meth {f a es} : (pden G C (.meth f a es)).i p = ((pden G C (.meth f a es)).v p).bind itemsV := by simp only [pden]; rfl
@[simp] theorem pv_lc {elt tg it ifs own} : (pden G C (.lc elt tg it ifs own)).v p = (((pden G C it).i p).bind fun xs => (lcP (fun x => (pbind tg x p).bind fun p1 => (pTs (pdenL G C ifs) p1).bind fun b => if b then ((pden G C elt).v p1).map some else some none) xs).bind lstV) := by simp only [pden]; rfl
@[simp] theorem pt_lc {elt tg it ifs own} : (pden G C (.lc elt tg it ifs own)).t p = ((pden G C (.lc elt tg it ifs own)).v p).bind truth := by simp only [pden]; rfl
@[simp] theorem pi_lc {elt tg it ifs own} : (pden G C (.lc elt tg it ifs own)).i p = ((pden G C (.lc elt tg it ifs own)).v p).bind itemsV := by simp only [pden]; rfl
@[simp] theorem pv_notv {a} : (pden G C (.notv a)).v p = ((pden G C a).v p).bind fun r => (truth r).map fun b => .bl (!b) := by simp only [pden]
@[simp] theorem pt_notv {a} : (pden G C (.notv a)).t p = ((pden G C a).t p).map fun k => !k := by simp only [pden]
@[simp] theorem pv_andv {es} : (pden G C (.andv es)).v p = pAndV (pdenL G C es) p := by simp only [pden]
@[simp] theorem pt_andv {es} : (pden G C (.andv es)).t p = pAndT (pdenL G C es) p := by simp only [pden]
@[simp] theorem pv_orv {es} : (pden G C (.orv es)).v p = pOrV (pdenL G C es) p := by simp only [pden]
@[simp] theorem pt_orv {es} : (pden G C (.orv es)).t p = pOrT (pdenL G C es) p := by simp only [pden]
@[simp] theorem pv_ife {c a b} : (pden G C (.ife c a b)).v p = ((pden G C c).t p).bind fun k => if k then (pden G C a).v p else (pden G C b).v p := by simp only [pden]
@[simp] theorem pi_ife {c a b} : (pden G C (.ife c a b)).i p = ((pden G C (.ife c a b)).v p).bind itemsV := by simp only [pden]; rfl
@[simp] theorem pi_rng {es} : (pden G C (.rng es)).i p = (pL (pdenL G C es) p).bind rngV := by simp only [pden]
@[simp] theorem pi_zip {a b} : (pden G C (.zip a b)).i p = ((pden G C a).v p).bind fun x => ((pden G C b).v p).bind fun y => zipV x y := by simp only [pden]
@[simp] theorem pi_enum {a} : (pden G C (.enum a)).i p = ((pden G C a).v p).bind enumV := by simp only [pden]
@[simp] theorem pi_revd {a} : (pden G C (.revd a)).i p = ((pden G C a).v p).bind revdV := by simp only [pden]
@[simp] theorem pv_pth {i kr} : (pden G C (.pth i kr)).v p = (pget p i).bind fun t => (pIs (pdenL G C kr).reverse p).bind fun ks => (getP ks t).bind nlV := by simp only [pden]; rfl
@[simp] theorem pt_pth {i kr} : (pden G C (.pth i kr)).t p = ((pden G C (.pth i kr)).v p).bind truth := by simp only [pden]; rfl
@[simp] theorem pi_pth {i kr} : (pden G C (.pth i kr)).i p = ((pden G C (.pth i kr)).v p).bind itemsV := by simp only [pden]; rfl
@[simp] theorem getP_nil {t} : getP [] t = some t := rfl
@[simp] theorem getP_lst {k ks xs} : getP (k :: ks) (.lst xs) = (L2.atI xs k).bind (getP ks) := rfl
@[simp] theorem getP_tup {k ks xs} : getP (k :: ks) (.tup xs) = (L2.atI xs k).bind (getP ks) := rfl
theorem nlV_ok {z : T} (h : z.nl = true) : nlV z = some z := by unfold nlV; rw [if_pos h]
@[simp] theorem nlV_int {i} : nlV (.int i) = some (.int i) := rfl
@[simp] theorem nlV_str {x} : nlV (.str x) = some (.str x) := rfl
@[simp] theorem nlV_tup2 {i j} : nlV (.tup [.int i, .int j]) = some (.tup [.int i, .int j]) := rfl
@[simp] theorem pdenL_nil : pdenL G C [] = [] := by simp only [pdenL]
@[simp] theorem pdenL_cons {e es} : pdenL G C (e :: es) = pden G C e :: pdenL G C es := by simp only [pdenL]
@[simp] theorem pL_nil : pL [] p = some [] := rfl
@[simp] theorem pL_cons {e es} : pL (e :: es) p = (e.v p).bind fun t => (pL es p).map fun ts => t :: ts := rfl
@[simp] theorem pTs_nil : pTs [] p = some true := rfl
@[simp] theorem pTs_one {c} : pTs [c] p = c.t p := rfl
@[simp] theorem pAndV_1 {d} : pAndV [d] p = d.v p := rfl
@[simp] theorem pAndT_1 {d} : pAndT [d] p = d.t p := rfl
@[simp] theorem pOrV_1 {d} : pOrV [d] p = d.v p := rfl
@[simp] theorem pOrT_1 {d} : pOrT [d] p = d.t p := rfl
@[simp] theorem pAndV_2 {d d' ds} : pAndV (d :: d' :: ds) p = (d.v p).bind fun r => match r with
    | .bl true => pAndV (d' :: ds) p
    | .bl false => some (.bl false)
    | _ => none := rfl
@[simp] theorem pOrV_2 {d d' ds} : pOrV (d :: d' :: ds) p = (d.v p).bind fun r => match r with
    | .bl false => pOrV (d' :: ds) p
    | .bl true => some (.bl true)
    | _ => none := rfl
@[simp] theorem pAndT_2 {d d' ds} : pAndT (d :: d' :: ds) p = (d.t p).bind fun k => if k then pAndT (d' :: ds) p else some false := rfl
@[simp] theorem pOrT_2 {d d' ds} : pOrT (d :: d' :: ds) p = (d.t p).bind fun k => if k then some true else pOrT (d' :: ds) p := rfl
@[simp] theorem intT_int {i} : intT (.int i) = some i := rfl
@[simp] theorem pO_nil : pO [] p = some none := rfl
@[simp] theorem pO_one {d} : pO [d] p = (d.v p).bind fun r => (intT r).map some := rfl
@[simp] theorem pIs_nil : pIs [] p = some [] := rfl
@[simp] theorem pIs_cons {e es} : pIs (e :: es) p = (e.v p).bind fun r => (intT r).bind fun k => (pIs es p).map fun x => k :: x := rfl
@[simp] theorem pget_eq {i} : pget p i = p[i]?.join := rfl
@[simp] theorem zipV_l {xs ys} : zipV (.lst xs) (.lst ys) = some ((xs.zip ys).map fun p => .tup [p.1, p.2]) := rfl
@[simp] theorem zipV_s {xs ys} : zipV (.str xs) (.str ys) = some ((xs.zip ys).map fun p => .tup [.str [p.1], .str [p.2]]) := rfl
@[simp] theorem enumV_l {xs} : enumV (.lst xs) = some (xs.zipIdx.map fun p => .tup [.int (p.2 : Nat), p.1]) := rfl
@[simp] theorem revdV_l {xs} : revdV (.lst xs) = some xs.reverse := rfl
@[simp] theorem revV_l {xs} : revV (.lst xs) = some (.lst xs.reverse) := rfl
@[simp] theorem revV_s {x} : revV (.str x) = some (.str x.reverse) := rfl
@[simp] theorem methV_join {a ys} : methV .join (.str a) [.lst ys] = (strsV ys).bind fun ss => if (ss.map List.length).sum + ss.length * a.length ≤ 16777216 then some (.str (joinN a ss)) else none := rfl
@[simp] theorem methV_sx {x c} : methV .sindex (.str x) [.str [c]] = (x.findIdx? (· == c)).map fun j => .int (j : Nat) := rfl
@[simp] theorem strsV_map : ∀ {l : List (List Nat)}, strsV (l.map T.str) = some l
  | [] => rfl
  | x :: l => by
    show (strsV (l.map T.str)).map _ = _
    rw [strsV_map]; rfl
theorem joinN_nil : ∀ l : List (List Nat), joinN [] l = l.flatten
  | [] => rfl
  | [x] => by simp [joinN]
  | x :: y :: r => by
    show x ++ ([] ++ joinN [] (y :: r)) = _
    rw [joinN_nil (y :: r)]; simp
@[simp] theorem slV_l {lo hi xs} : slV lo hi (.lst xs) = some (.lst (cutT xs lo hi)) := rfl
@[simp] theorem slV_s {lo hi xs} : slV lo hi (.str xs) = some (.str (cutT xs lo hi)) := rfl
@[simp] theorem negV_i {i} : negV (.int i) = some (.int (-i)) := rfl
theorem tupV_ok {ts : List T} (h : ts.length ≤ 100000) : tupV ts = some (.tup ts) := by unfold tupV; rw [if_pos (le_size h)]
theorem lstV_ok {ts : List T} (h : ts.length ≤ 100000) : lstV ts = some (.lst ts) := by unfold lstV; rw [if_pos (le_size h)]
@[simp] theorem tupV_0 : tupV [] = some (.tup []) := tupV_ok (by decide)
@[simp] theorem tupV_1 {a} : tupV [a] = some (.tup [a]) := tupV_ok (by simp)
@[simp] theorem tupV_2 {a b} : tupV [a, b] = some (.tup [a, b]) := tupV_ok (by simp)
@[simp] theorem tupV_3 {a b c} : tupV [a, b, c] = some (.tup [a, b, c]) := tupV_ok (by simp)
@[simp] theorem tupV_4 {a b c d} : tupV [a, b, c, d] = some (.tup [a, b, c, d]) := tupV_ok (by simp)
@[simp] theorem tupV_5 {a b c d e} : tupV [a, b, c, d, e] = some (.tup [a, b, c, d, e]) := tupV_ok (by simp)
@[simp] theorem lstV_0 : lstV [] = some (.lst []) := lstV_ok (by decide)
@[simp] theorem lstV_1 {a} : lstV [a] = some (.lst [a]) := lstV_ok (by simp)
@[simp] theorem lstV_2 {a b} : lstV [a, b] = some (.lst [a, b]) := lstV_ok (by simp)
@[simp] theorem lstV_3 {a b c} : lstV [a, b, c] = some (.lst [a, b, c]) := lstV_ok (by simp)
@[simp] theorem lstV_4 {a b c d} : lstV [a, b, c, d] = some (.lst [a, b, c, d]) := lstV_ok (by simp)
@[simp] theorem pbind_nm {n : Nat} {t : T} : pbind (.nm n) t p = if n < p.length then some (p.set n (some t)) else none := by simp only [pbind]
@[simp] theorem pbind_tp {ts xs} : pbind (.tp ts) (.tup xs) p = pbinds ts xs p := by simp only [pbind]
@[simp] theorem pbinds_nil : pbinds [] [] p = some p := by simp only [pbinds]
@[simp] theorem pbinds_cons {g gs x xs} : pbinds (g :: gs) (x :: xs) p = (pbind g x p).bind fun p' => pbinds gs xs p' := by simp only [pbinds]
@[simp] theorem pS_set {i e} : pS G C (.set i e) p = ((pden G C e).v p).bind fun t => (pbind (.nm i) t p).map .nx := by simp only [pS]
@[simp] theorem pS_setc {i elt tg it ifs own} : pS G C (.setc i elt tg it ifs own) p = ((pden G C (.lc elt tg it ifs own)).v p).bind fun t => (pbind (.nm i) t p).map .nx := by simp only [pS]
@[simp] theorem pS_asg {tg e} : pS G C (.asg tg e) p = ((pden G C e).v p).bind fun t => (pbind tg t p).map .nx := by simp only [pS]
@[simp] theorem pS_par {i j a b} : pS G C (.par i j a b) p = ((pden G C a).v p).bind fun x => ((pden G C b).v p).bind fun y => (pbind (.nm i) x p).bind fun p' => (pbind (.nm j) y p').map .nx := by simp only [pS]
@[simp] theorem pS_aug {i op e} : pS G C (.aug i op e) p = (pget p i).bind fun x => ((pden G C e).v p).bind fun y => (augV op x y).bind fun z => (pbind (.nm i) z p).map .nx := by simp only [pS]
@[simp] theorem pS_app {i ixs e} : pS G C (.app i ixs e) p = (pget p i).bind fun t => if rootOk ixs t = false then none else (pIs (pdenL G C ixs) p).bind fun ks => ((pden G C e).v p).bind fun y => (pmod i ks (appV y) p).map .nx := by simp only [pS]
@[simp] theorem pS_seti {i ixs k e} : pS G C (.seti i ixs k e) p = ((pden G C e).v p).bind fun y => (pget p i).bind fun _ => (pIs (pdenL G C ixs) p).bind fun ks => ((pden G C k).v p).bind fun r => (intT r).bind fun k => (pmod i ks (setV k y) p).map .nx := by simp only [pS]
@[simp] theorem pS_asr {cs i ixs f j jxs} : pS G C (.asr cs i ixs f j jxs) p = (pOrF (pdenL G C cs) p).bind fun k => if k then some (.rt (.bl false)) else (pIs (pdenL G C ixs) p).bind fun ks => (pIs (pdenL G C jxs) p).bind fun ls => (pOwn C i ks f j ls p).map .nx := by simp only [pS]
@[simp] theorem pOrF_nil : pOrF [] p = some false := rfl
@[simp] theorem pOrF_cons {d : PD} {ds : List PD} : pOrF (d :: ds) p = (d.t p).bind fun k => if k then some true else pOrF ds p := rfl
@[simp] theorem pS_exp {e} : pS G C (.exp e) p = ((pden G C e).v p).map fun _ => .nx p := by simp only [pS]
@[simp] theorem pS_ret {e} : pS G C (.ret e) p = ((pden G C e).v p).map .rt := by simp only [pS]
@[simp] theorem pS_retN : pS G C .retN p = some (.rt .non) := by simp only [pS]
@[simp] theorem pS_ite {c a b} : pS G C (.ite c a b) p = ((pden G C c).t p).bind fun k => if k then pSs G C a p else pSs G C b p := by simp only [pS]
@[simp] theorem pS_whl {c b} : pS G C (.whl c b) p = whlP (pden G C c).t (pSs G C b) whlMost p := by simp only [pS]
@[simp] theorem pS_for {tg it b} : pS G C (.for_ tg it b) p = ((pden G C it).i p).bind fun xs => forP (fun x p => pbind tg x p) (pSs G C b) xs p := by simp only [pS]
@[simp] theorem pS_pass : pS G C .pass p = some (.nx p) := by simp only [pS]
@[simp] theorem pS_brk : pS G C .brk p = some (.bk p) := by simp only [pS]
@[simp] theorem pS_cnt : pS G C .cnt p = some (.ct p) := by simp only [pS]
@[simp] theorem pSs_nil : pSs G C [] p = some (.nx p) := by simp only [pSs]
@[simp] theorem pSs_cons {s ss} : pSs G C (s :: ss) p = (pS G C s p).bind fun f => f.seq (pSs G C ss) := by simp only [pSs]
@[simp] theorem pseq_nx {k} : (PF.nx p).seq k = k p := rfl
@[simp] theorem pseq_rt {t k} : (PF.rt t).seq k = some (.rt t) := rfl
@[simp] theorem pseq_bk {k} : (PF.bk p).seq k = some (.bk p) := rfl
@[simp] theorem pseq_ct {k} : (PF.ct p).seq k = some (.ct p) := rfl
@[simp] theorem pturn_nx {k} : (PF.nx p).turn k = k p := rfl
@[simp] theorem pturn_ct {k} : (PF.ct p).turn k = k p := rfl
@[simp] theorem pturn_bk {k} : (PF.bk p).turn k = some (.nx p) := rfl
@[simp] theorem pturn_rt {t k} : (PF.rt t).turn k = some (.rt t) := rfl
@[simp] theorem forP_nil {b f} : forP b f [] p = some (.nx p) := rfl
theorem forP_cons {b f x xs} : forP b f (x :: xs) p = (b x p).bind fun p1 => (f p1).bind fun fl => fl.turn (forP b f xs) := rfl
@[simp] theorem pmod_eq {i ks f} : pmod i ks f p = (p[i]?.join).bind fun t => (modAt f ks t).map fun t' => p.set i (some t') := rfl
@[simp] theorem modAt_lst {f k ks xs} : modAt f (k :: ks) (.lst xs) = (ixN xs.length k).bind fun j => (xs[j]?).bind fun x => (modAt f ks x).map fun y => .lst (xs.set j y) := rfl
@[simp] theorem modAt_tup {f k ks xs} : modAt f (k :: ks) (.tup xs) = (ixN xs.length k).bind fun j => (xs[j]?).bind fun x => (modAt f ks x).map fun y => .tup (xs.set j y) := rfl
@[simp] theorem startP_eq {n ts} : startP n ts = ts.map some ++ List.replicate (n - ts.length) none := rfl
@[simp] theorem finP_nx : finP (.nx p) = some .non := rfl
@[simp] theorem finP_rt {t} : finP (.rt t) = some t := rfl
@[simp] theorem b_sorted {xs : List T} : bltV .sorted [.lst xs] = (intsV xs).map fun ns => .lst ((ns.mergeSort fun a b => decide (a ≤ b)).map .int) := rfl
@[simp] theorem b_max {xs : List T} : bltV .max [.lst xs] = (intsV xs).bind fun ns => if ns.length = 0 then none else some (.int (maxL ns)) := rfl
@[simp] theorem b_min {xs : List T} : bltV .min [.lst xs] = (intsV xs).bind fun ns => if ns.length = 0 then none else some (.int (minL ns)) := rfl
end
section
variable {α β : Type}
@[simp] theorem lcP_nil {f : α → Option (Option T)} : lcP f [] = some [] := rfl
theorem lcP_cons {f : α → Option (Option T)} {x xs} : lcP f (x :: xs) = (f x).bind fun y => (lcP f xs).map fun ys => match y with
    | none => ys
    | some z => z :: ys := by
  conv => lhs; unfold lcP
  cases f x with
  | none => rfl
  | some y => cases y <;> rfl
@[simp] theorem lcP_map {f : β → Option (Option T)} {g : α → β} : ∀ {l : List α}, lcP f (l.map g) = lcP (fun a => f (g a)) l
  | [] => rfl
  | a :: l => by rw [List.map_cons, lcP_cons, lcP_cons, lcP_map]
theorem lcP_congr {f : α → Option (Option T)} {g : α → Option (Option T)} : ∀ {l : List α}, (∀ a ∈ l, f a = g a) → lcP f l = lcP g l
  | [], _ => rfl
  | a :: l, h => by rw [lcP_cons, lcP_cons, h a (by simp), lcP_congr fun b m => h b (by simp [m])]
@[simp] theorem lcP_some {g : α → T} : ∀ {l : List α}, lcP (fun a => some (some (g a))) l = some (l.map g)
  | [] => rfl
  | a :: l => by rw [lcP_cons, lcP_some]; rfl
theorem lcP_all {f : α → Option (Option T)} {g : α → T} {l : List α} (h : ∀ a ∈ l, f a = some (some (g a))) : lcP f l = some (l.map g) := by
  rw [lcP_congr h, lcP_some]
@[simp] theorem lcP_if {c : α → Prop} [DecidablePred c] {g : α → T} : ∀ {l : List α}, lcP (fun a => if c a then some (some (g a)) else some none) l = some ((l.filter fun a => decide (c a)).map g)
  | [] => rfl
  | a :: l => by
    rw [lcP_cons, lcP_if]
    by_cases h : c a
    · simp [h]
    · simp [h]
theorem lcP_sel {f : α → Option (Option T)} {c : α → Bool} {g : α → T} {l : List α} (h : ∀ a ∈ l, f a = if c a then some (some (g a)) else some none) : lcP f l = some ((l.filter c).map g) := by
  rw [lcP_congr h, lcP_if]; simp
/-- a walk that goes on to its end: the frame by what it has seen -/
theorem forP_fold {σ : Type} {b : T → PE → Option PE} {f : PE → Option PF} {g : α → T} {E : σ → PE} {F : σ → α → σ} : ∀ (l : List α) (s : σ), (∀ s, ∀ a ∈ l, ((b (g a) (E s)).bind f) = some (.nx (E (F s a))) ∨ ((b (g a) (E s)).bind f) = some (.ct (E (F s a)))) → forP b f (l.map g) (E s) = some (.nx (E (l.foldl F s)))
  | [], s, _ => rfl
  | a :: l, s, h => by
    rw [List.map_cons, forP_cons]
    have ih := forP_fold l (F s a) (fun s c m => h s c (by simp [m]))
    rcases h s a (by simp) with e | e
    · obtain ⟨p1, e1, e2⟩ := obind e
      rw [e1, Option.bind_some, e2]; exact ih
    · obtain ⟨p1, e1, e2⟩ := obind e
      rw [e1, Option.bind_some, e2]; exact ih
/-- a walk by what it keeps -/
theorem forP_inv {b : T → PE → Option PE} {f : PE → Option PF} : ∀ (xs : List T) (P : Nat → PE → Prop) (i : Nat) (p : PE), P i p →
    (∀ j x p, xs[j]? = some x → P (i + j) p → ∃ p1 p2, b x p = some p1 ∧ (f p1 = some (.nx p2) ∨ f p1 = some (.ct p2)) ∧ P (i + j + 1) p2) → ∃ p', forP b f xs p = some (.nx p') ∧ P (i + xs.length) p'
  | [], P, i, p, h0, _ => ⟨p, rfl, h0⟩
  | x :: xs, P, i, p, h0, step => by
    obtain ⟨ρ1, ρ2, e1, e2, h1⟩ := step 0 x p rfl h0
    obtain ⟨p', e3, h3⟩ := forP_inv xs P (i + 1) ρ2 h1 (fun j y p e h => by
      obtain ⟨r1, r2, q1, q2, q3⟩ := step (j + 1) y p (by simpa using e) (by rw [← Nat.add_assoc, Nat.add_right_comm]; exact h)
      exact ⟨r1, r2, q1, q2, by rw [Nat.add_right_comm i 1 j, Nat.add_assoc i j 1]; rw [← Nat.add_assoc] at q3; rwa [Nat.add_assoc i j 1] at q3⟩)
    refine ⟨p', ?_, ?_⟩
    · rw [forP_cons, e1, Option.bind_some]
      rcases e2 with e2 | e2 <;> (rw [e2, Option.bind_some]; exact e3)
    · rw [List.length_cons, Nat.add_comm xs.length 1, ← Nat.add_assoc]; exact h3
theorem forP_inv0 {b : T → PE → Option PE} {f : PE → Option PF} (xs : List T) (P : Nat → PE → Prop) {p : PE} (h0 : P 0 p)
    (step : ∀ j x p, xs[j]? = some x → P j p → ∃ p1 p2, b x p = some p1 ∧ (f p1 = some (.nx p2) ∨ f p1 = some (.ct p2)) ∧ P (j + 1) p2) : ∃ p', forP b f xs p = some (.nx p') ∧ P xs.length p' := by
  obtain ⟨p', e, h⟩ := forP_inv xs P 0 p h0 (fun j x p e h => by
    rw [Nat.zero_add] at h ⊢
    exact step j x p e h)
  exact ⟨p', e, by simpa using h⟩
end
/-- a call, one step -/
theorem runP1 {G : List Nat → Option T} {F : List Nat → Option Fn} {f : List Nat} {d : Fn} (hf : F f = some d) (n : Nat) (ts : List T) (hl : ts.length = d.np) : runP G F (n + 1) f ts = (pSs G (runP G F n) d.body (startP d.ns ts)).bind finP := by
  unfold runP
  rw [hf, Option.bind_some, if_pos hl]
end Ev
namespace Ev
open PySem (sizeLine)
section
variable {G : List Nat → Option T} {F : List Nat → Option Fn} {f c : List Nat}
theorem pun_cell (hf : F f = some t_cell) (ns : List Int) (k n : Nat) : runP G F (n + 1) f [.lst (ns.map T.int), .int k] = some (.int (ns.getD k 0)) := by
  rw [runP1 hf _ _ rfl]
  by_cases h : k < ns.length
  · have h' : (k : Int) < ns.length := by omega
    simp [t_cell, h', h]
  · have h' : ¬ ((k : Int) < ns.length) := by omega
    simp [t_cell, h', List.getElem?_eq_none (by omega : ns.length ≤ k)]
theorem pnums_loop1 {C : List Nat → List T → Option T} {L : Int} (hL : 0 < L) (hL2 : L.natAbs.log2 < 9000) : ∀ (xs : List Nat) (acc : List Int) (cell : Int) (s1 s4 s5 : Option T), acc.length + xs.length ≤ 100000 → ∃ (ds : List Int) (cell' : Int) (s4' : Option T), ds.length = xs.length ∧ (∀ d ∈ ds, 0 ≤ d ∧ d < L) ∧
    forP (fun x p => pbind (.nm 4) x p) (pSs G C b_nums1) (xs.map fun i => T.int (i : Nat)) [some (.int cell), s1, some (.int L), some (.lst (acc.map T.int)), s4, s5] =
      some (.nx [some (.int cell'), s1, some (.int L), some (.lst ((acc ++ ds).map T.int)), s4', s5]) := by
  intro xs
  induction xs with
  | nil => intro acc cell s1 s4 s5 _; exact ⟨[], cell, s4, rfl, by simp, by simp⟩
  | cons x xs ih =>
    intro acc cell s1 s4 s5 h
    obtain ⟨ds, c', s4', h1, h2, h3⟩ := ih (acc ++ [cell % L]) (cell / L) s1 (some (.int (x : Nat))) s5 (by simp at h ⊢; omega)
    refine ⟨cell % L :: ds, c', s4', by simp [h1], ?_, ?_⟩
    · intro d m
      rcases List.mem_cons.mp m with rfl | m
      · exact ⟨Int.emod_nonneg _ (by omega), Int.emod_lt_of_pos _ hL⟩
      · exact h2 d m
    · have hz : acc.length < sizeLine := lt_size (by simp at h; omega)
      have e : acc ++ (cell % L :: ds) = (acc ++ [cell % L]) ++ ds := by simp
      rw [e, ← h3]
      simp [forP_cons, b_nums1, hL, hL2, hz]
theorem pnums_loop2 {C : List Nat → List T → Option T} {L : Int} (hL : 0 < L) : ∀ (xs : List Nat) (acc : List Int) (cell : Int) (s1 s4 s5 : Option T), acc.length + xs.length ≤ 100000 → (∀ x ∈ xs, x ≤ 1000000) → ∃ (ds : List Int) (s4' s5' : Option T), ds.length = xs.length ∧ (∀ d ∈ ds, 0 ≤ d ∧ d < L) ∧
    forP (fun x p => pbind (.nm 4) x p) (pSs G C b_nums2) (xs.map fun i => T.int (i : Nat)) [some (.int cell), s1, some (.int L), some (.lst (acc.map T.int)), s4, s5] =
      some (.nx [some (.int cell), s1, some (.int L), some (.lst ((acc ++ ds).map T.int)), s4', s5']) := by
  intro xs
  induction xs with
  | nil => intro acc cell s1 s4 s5 _ _; exact ⟨[], s4, s5, rfl, by simp, by simp⟩
  | cons x xs ih =>
    intro acc cell s1 s4 s5 h hx
    let m1 : Int := (cell * 48271 + (x : Int) * 69621 + 7) % 2147483647
    let m2 : Int := (m1 * m1 + m1 * 40692 + (x : Int) * 16807 + 11) % 2147483399
    obtain ⟨ds, s4', s5', h1, h2, h3⟩ := ih (acc ++ [m2 / 32 % L]) cell s1 (some (.int (x : Nat))) (some (.int m2)) (by simp at h ⊢; omega) (fun y m => hx y (by simp [m]))
    refine ⟨m2 / 32 % L :: ds, s4', s5', by simp [h1], ?_, ?_⟩
    · intro d m
      rcases List.mem_cons.mp m with rfl | m
      · exact ⟨Int.emod_nonneg _ (by omega), Int.emod_lt_of_pos _ hL⟩
      · exact h2 d m
    · have hz : acc.length < sizeLine := lt_size (by simp at h; omega)
      have e : acc ++ (m2 / 32 % L :: ds) = (acc ++ [m2 / 32 % L]) ++ ds := by simp
      rw [e, ← h3]
      have b1 : 0 ≤ m1 ∧ m1 < 2147483647 := ⟨Int.emod_nonneg _ (by decide), Int.emod_lt_of_pos _ (by decide)⟩
      have c1 : m1.natAbs < 18446744073709551616 := by omega
      have l32 : (32 : Nat).log2 < 9000 := by decide
      simp only [m1] at c1
      simp [forP_cons, b_nums2, hL, hz, c1, l32, m2, m1]
theorem pbig_t {C : List Nat → List T → Option T} {p : PE} {cell : Int} : (pden G C e_big).t (some (.int cell) :: p) = some (decide (1000000000000000000 ≤ cell)) := by
  have pw : binV .pow (.int 10) (.int 18) = some (.int 1000000000000000000) := by simp
  have h : (some (T.int cell) :: p)[0]? = some (some (.int cell)) := rfl
  simp only [e_big, pt_cmp, pv_cmp, pv_var, pv_bin, pv_int, h, Option.join_some, Option.bind_some, pw, cmp_ge, Option.map_some, truth_bl]
theorem pun_numbers (hf : F f = some t_numbers) {L : Int} (hL : 0 < L) (hL2 : L.natAbs.log2 < 9000) (cell : Int) {c : Nat} (hc : c ≤ 10000) (n : Nat) : ∃ ds : List Int, ds.length = c ∧ (∀ d ∈ ds, 0 ≤ d ∧ d < L) ∧ runP G F (n + 1) f [.int cell, .int c, .int L] = some (.lst (ds.map T.int)) := by
  have hr : rngV [.int (c : Int)] = some ((List.range c).map fun i => .int (i : Nat)) := rng_n (by omega)
  by_cases h : (1000000000000000000 : Int) ≤ cell
  · obtain ⟨ds, c', s4', h1, h2, h3⟩ := pnums_loop1 (G := G) (C := runP G F n) hL hL2 (List.range c) [] cell (some (.int c)) none none (by simp; omega)
    refine ⟨ds, by simpa using h1, h2, ?_⟩
    rw [runP1 hf _ _ rfl]
    simp only [pbind_nm, List.map_nil, List.nil_append] at h3
    simp [t_numbers, t_numbersE, pbig_t, h, hr, h3]
  · obtain ⟨ds, s4', s5', h1, h2, h3⟩ := pnums_loop2 (G := G) (C := runP G F n) hL (List.range c) [] cell (some (.int c)) none none (by simp; omega) (fun x m => by have := List.mem_range.mp m; omega)
    refine ⟨ds, by simpa using h1, h2, ?_⟩
    rw [runP1 hf _ _ rfl]
    simp only [pbind_nm, List.map_nil, List.nil_append] at h3
    simp [t_numbers, t_numbersE, pbig_t, h, hr, h3]
theorem psame_loop {C : List Nat → List T → Option T} {t : T} {xs : List T} (ht : t = .lst xs ∨ t = .tup xs) (hC : ∀ x ∈ xs, C f [x, x] = some (.bl true)) (s : Option T) :
    ∃ s', forP (fun x p => pbind (.nm 2) x p) (pSs G C (b_same f)) ((List.range xs.length).map fun i => T.int (i : Nat)) [some t, some t, s] = some (.nx [some t, some t, s']) := by
  obtain ⟨p', e, s', rfl⟩ := forP_inv0 (b := fun x p => pbind (.nm 2) x p) (f := pSs G C (b_same f)) ((List.range xs.length).map fun i => T.int (i : Nat)) (fun _ p => ∃ s', p = [some t, some t, s']) ⟨s, rfl⟩ (fun j x p hx hP => by
    obtain ⟨s', rfl⟩ := hP
    rw [List.getElem?_map] at hx
    obtain ⟨j', hj, rfl⟩ := Option.map_eq_some_iff.mp hx
    have hlt : j' < xs.length := List.mem_range.mp (List.mem_of_getElem? hj)
    have hc := hC xs[j'] (List.getElem_mem _)
    refine ⟨[some t, some t, some (.int (j' : Nat))], [some t, some t, some (.int (j' : Nat))], by simp, .inl ?_, _, rfl⟩
    rcases ht with rfl | rfl <;> simp [b_same, hlt, hc])
  exact ⟨s', e⟩
theorem psame_refl (hf : F f = some (t_same f)) : ∀ (d : Nat) (t : T), Dat d t → ∀ n, runP G F (n + d + 1) f [t, t] = some (.bl true)
  | d, .non, _, n => by rw [runP1 hf _ _ rfl]; simp [t_same, isiV]
  | d, .bl b, _, n => by rw [runP1 hf _ _ rfl]; simp [t_same, isiV, cmp_eq, T.depLe, eqT]
  | d, .int i, _, n => by rw [runP1 hf _ _ rfl]; simp [t_same, isiV]
  | d, .str s, _, n => by rw [runP1 hf _ _ rfl]; simp [t_same, isiV]
  | d + 1, .lst xs, h, n => by
    cases h with
    | lst hz hx =>
      obtain ⟨s', e⟩ := psame_loop (G := G) (C := runP G F (n + (d + 1))) (f := f) (t := .lst xs) (.inl rfl) (fun x m => psame_refl hf d x (hx x m) n) none
      have hr := rng_n (n := xs.length) (by omega)
      simp only [pbind_nm] at e
      rw [runP1 hf _ _ rfl]; simp [t_same, isiV, hr, e]
  | d + 1, .tup xs, h, n => by
    cases h with
    | tup hz hx =>
      obtain ⟨s', e⟩ := psame_loop (G := G) (C := runP G F (n + (d + 1))) (f := f) (t := .tup xs) (.inr rfl) (fun x m => psame_refl hf d x (hx x m) n) none
      have hr := rng_n (n := xs.length) (by omega)
      simp only [pbind_nm] at e
      rw [runP1 hf _ _ rfl]; simp [t_same, isiV, hr, e]
  | 0, .lst _, h, _ => by cases h
  | 0, .tup _, h, _ => by cases h
  | _, .dct _ _, h, _ => by cases h
  | _, .obj _ _ _, h, _ => by cases h
theorem pun_fraction (hf : F f = some t_fraction) {a b : Int} (hb : b ≠ 0) (hs : b.natAbs < 2 ^ 9000) (n : Nat) : runP G F (n + 1) f [.int a, .int b] = some (fr (Rat.divInt a b)) := by
  have hs' : (Nat.gcd a.natAbs b.natAbs).log2 < 9000 := gcd_log (by omega) hs (by decide)
  have hg : 0 < Nat.gcd a.natAbs b.natAbs := Nat.gcd_pos_of_pos_right _ (by omega)
  rw [runP1 hf _ _ rfl]
  by_cases h : b < 0
  · rw [divInt_neg h, ← fr_pos (by omega)]
    have e : -b = ((b.natAbs : Nat) : Int) := by omega
    simp [t_fraction, h, hg, hs', e]
  · have hb' : 0 < b := by omega
    rw [divInt_pos hb', ← fr_pos (by omega)]
    have e : ((b.natAbs : Nat) : Int) = b := by omega
    simp [t_fraction, h, hg, hs', e]
/-- Fibonacci's numbers -/
def fb : Nat → Nat
  | 0 => 1
  | 1 => 2
  | n + 2 => fb (n + 1) + fb n
theorem fb_mono (n : Nat) : fb n ≤ fb (n + 1) := by
  cases n with
  | zero => decide
  | succ n => show fb (n + 1) ≤ fb (n + 1) + fb n; omega
theorem fb_31 (k : Nat) : 2 ^ 21 * fb k ≤ fb (k + 31) := by
  have m := fb_mono k
  have h2 : fb (k + 2) = fb (k + 1) + fb k := rfl
  have h3 : fb (k + 3) = fb (k + 2) + fb (k + 1) := rfl
  have h4 : fb (k + 4) = fb (k + 3) + fb (k + 2) := rfl
  have h5 : fb (k + 5) = fb (k + 4) + fb (k + 3) := rfl
  have h6 : fb (k + 6) = fb (k + 5) + fb (k + 4) := rfl
  have h7 : fb (k + 7) = fb (k + 6) + fb (k + 5) := rfl
  have h8 : fb (k + 8) = fb (k + 7) + fb (k + 6) := rfl
  have h9 : fb (k + 9) = fb (k + 8) + fb (k + 7) := rfl
  have h10 : fb (k + 10) = fb (k + 9) + fb (k + 8) := rfl
  have h11 : fb (k + 11) = fb (k + 10) + fb (k + 9) := rfl
  have h12 : fb (k + 12) = fb (k + 11) + fb (k + 10) := rfl
  have h13 : fb (k + 13) = fb (k + 12) + fb (k + 11) := rfl
  have h14 : fb (k + 14) = fb (k + 13) + fb (k + 12) := rfl
  have h15 : fb (k + 15) = fb (k + 14) + fb (k + 13) := rfl
  have h16 : fb (k + 16) = fb (k + 15) + fb (k + 14) := rfl
  have h17 : fb (k + 17) = fb (k + 16) + fb (k + 15) := rfl
  have h18 : fb (k + 18) = fb (k + 17) + fb (k + 16) := rfl
  have h19 : fb (k + 19) = fb (k + 18) + fb (k + 17) := rfl
  have h20 : fb (k + 20) = fb (k + 19) + fb (k + 18) := rfl
  have h21 : fb (k + 21) = fb (k + 20) + fb (k + 19) := rfl
  have h22 : fb (k + 22) = fb (k + 21) + fb (k + 20) := rfl
  have h23 : fb (k + 23) = fb (k + 22) + fb (k + 21) := rfl
  have h24 : fb (k + 24) = fb (k + 23) + fb (k + 22) := rfl
  have h25 : fb (k + 25) = fb (k + 24) + fb (k + 23) := rfl
  have h26 : fb (k + 26) = fb (k + 25) + fb (k + 24) := rfl
  have h27 : fb (k + 27) = fb (k + 26) + fb (k + 25) := rfl
  have h28 : fb (k + 28) = fb (k + 27) + fb (k + 26) := rfl
  have h29 : fb (k + 29) = fb (k + 28) + fb (k + 27) := rfl
  have h30 : fb (k + 30) = fb (k + 29) + fb (k + 28) := rfl
  have h31 : fb (k + 31) = fb (k + 30) + fb (k + 29) := rfl
  omega
theorem fb_pow : ∀ m : Nat, 2 ^ (21 * m) ≤ fb (31 * m)
  | 0 => by decide
  | m + 1 => by
    have h1 := fb_pow m
    have h2 := fb_31 (31 * m)
    rw [show 31 * (m + 1) = 31 * m + 31 by omega, show 21 * (m + 1) = 21 + 21 * m by omega, Nat.pow_add]
    exact Nat.le_trans (Nat.mul_le_mul_left _ h1) h2
theorem pcommon_loop {C : List Nat → List T → Option T} : ∀ (k : Nat) (xs : List T) (a b : Nat) (s : Option T), b < fb k → k + 1 ≤ xs.length →
    forP (fun x p => pbind (.nm 2) x p) (pSs G C b_common) xs [some (.int a), some (.int b), s] = some (.rt (.int (Nat.gcd a b : Nat))) := by
  have z : ∀ (x : T) (xs : List T) (a : Nat) (s : Option T), forP (fun x p => pbind (.nm 2) x p) (pSs G C b_common) (x :: xs) [some (.int a), some (.int ((0 : Nat) : Int)), s] = some (.rt (.int a)) := by
    intro x xs a s
    simp [forP_cons, b_common]
  have nz : ∀ (x : T) (xs : List T) (a b : Nat) (s : Option T), b ≠ 0 → forP (fun x p => pbind (.nm 2) x p) (pSs G C b_common) (x :: xs) [some (.int a), some (.int b), s] =
      forP (fun x p => pbind (.nm 2) x p) (pSs G C b_common) xs [some (.int b), some (.int ((a % b : Nat) : Int)), some x] := by
    intro x xs a b s hb
    have hb' : 0 < b := by omega
    simp [forP_cons, b_common, hb, hb']
  have base : ∀ (xs : List T) (a b : Nat) (s : Option T), b = 0 → 1 ≤ xs.length → forP (fun x p => pbind (.nm 2) x p) (pSs G C b_common) xs [some (.int a), some (.int b), s] = some (.rt (.int (Nat.gcd a b : Nat))) := by
    intro xs a b s hb hl
    subst hb
    cases xs with
    | nil => simp at hl
    | cons x xs => rw [z x xs a s]; simp
  have both : ∀ k, (∀ (xs : List T) (a b : Nat) (s : Option T), b < fb k → k + 1 ≤ xs.length → forP (fun x p => pbind (.nm 2) x p) (pSs G C b_common) xs [some (.int a), some (.int b), s] = some (.rt (.int (Nat.gcd a b : Nat)))) ∧
      (∀ (xs : List T) (a b : Nat) (s : Option T), b < fb (k + 1) → k + 2 ≤ xs.length → forP (fun x p => pbind (.nm 2) x p) (pSs G C b_common) xs [some (.int a), some (.int b), s] = some (.rt (.int (Nat.gcd a b : Nat)))) := by
    intro k
    induction k with
    | zero =>
      refine ⟨fun xs a b s hb hl => base xs a b s (by have : b < 1 := hb; omega) hl, fun xs a b s hb hl => ?_⟩
      have hb : b < 2 := hb
      by_cases h0 : b = 0
      · exact base xs a b s h0 (by omega)
      · have h1 : b = 1 := by omega
        subst h1
        match xs, hl with
        | x :: xs, hl =>
          rw [nz x _ a 1 s (by decide), base xs 1 (a % 1) _ (Nat.mod_one a) (by simp at hl; omega)]
          rw [Nat.mod_one]; simp
    | succ k ih =>
      refine ⟨ih.2, fun xs a b s hb hl => ?_⟩
      have hb : b < fb (k + 1) + fb k := hb
      by_cases h0 : b = 0
      · exact base xs a b s h0 (by omega)
      · have hlt : a % b < b := Nat.mod_lt _ (by omega)
        match xs, hl with
        | x :: y :: xs, hl =>
          rw [nz x _ a b s h0]
          by_cases h1 : a % b < fb (k + 1)
          · rw [ih.2 (y :: xs) b (a % b) _ h1 (by simp at hl ⊢; omega)]
            congr 4
            rw [Nat.gcd_comm b, ← Nat.gcd_rec, Nat.gcd_comm]
          · have h2 : a % b ≠ 0 := by
              have := fb_mono k
              have : 0 < fb (k + 1) := by
                cases k with
                | zero => decide
                | succ k =>
                  have h3 := fb_mono (k + 1)
                  have h4 : fb (k + 2) = fb (k + 1) + fb k := rfl
                  omega
              omega
            rw [nz y _ b (a % b) _ h2]
            have h3 : b % (a % b) < fb k := by
              have h4 : b % (a % b) + (a % b) ≤ b := by
                have := Nat.div_add_mod b (a % b)
                have h5 : 1 ≤ b / (a % b) := (Nat.one_le_div_iff (by omega)).mpr (by omega)
                have h6 : (a % b) * 1 ≤ (a % b) * (b / (a % b)) := Nat.mul_le_mul_left _ h5
                omega
              omega
            rw [ih.1 xs (a % b) (b % (a % b)) _ h3 (by simp at hl ⊢; omega)]
            congr 4
            rw [Nat.gcd_comm (a % b), ← Nat.gcd_rec, ← Nat.gcd_rec, Nat.gcd_comm]
  exact fun k => (both k).1
theorem pun_common (hc : F c = some t_common) {a b : Int} (hs : b.natAbs < 2 ^ 600) (n : Nat) : runP G F (n + 1) c [.int a, .int b] = some (.int (Nat.gcd a.natAbs b.natAbs : Nat)) := by
  have ea : (if a < 0 then -a else a) = ((a.natAbs : Nat) : Int) := by split <;> omega
  have eb : (if b < 0 then -b else b) = ((b.natAbs : Nat) : Int) := by split <;> omega
  have hl := pcommon_loop (G := G) (C := runP G F n) 899 ((List.range 900).map fun i => T.int (i : Nat)) a.natAbs b.natAbs none (Nat.lt_of_lt_of_le (Nat.lt_of_lt_of_le hs (Nat.pow_le_pow_right (by decide) (by decide : 600 ≤ 21 * 29))) (fb_pow 29)) (by simp)
  simp only [pbind_nm] at hl
  rw [runP1 hc _ _ rfl]
  simp [t_common, ea, eb, rngV, hl]
theorem pun_lfrac (hf : F f = some (t_lfrac c)) (hc : F c = some t_common) {a b : Int} (hb : b ≠ 0) (hs : b.natAbs < 2 ^ 600) (n : Nat) : runP G F (n + 2) f [.int a, .int b] = some (fr (Rat.divInt a b)) := by
  have hs' : (Nat.gcd a.natAbs b.natAbs).log2 < 9000 := gcd_log (s := 9000) (by omega) (Nat.lt_of_lt_of_le hs (Nat.pow_le_pow_right (by decide) (by decide))) (by decide)
  have hg : 0 < Nat.gcd a.natAbs b.natAbs := Nat.gcd_pos_of_pos_right _ (by omega)
  rw [show n + 2 = (n + 1) + 1 from rfl, runP1 hf _ _ rfl]
  by_cases h : b < 0
  · have e : -b = ((b.natAbs : Nat) : Int) := by omega
    rw [divInt_neg h, ← fr_pos (by omega), ← e]
    have hcm := pun_common (G := G) hc (a := -a) (b := -b) (by rw [Int.natAbs_neg]; exact hs) n
    simp [t_lfrac, h, hg, hs', hcm]
  · have hb' : 0 < b := by omega
    rw [divInt_pos hb', ← fr_pos (by omega)]
    have e : ((b.natAbs : Nat) : Int) = b := by omega
    have hcm := pun_common (G := G) hc (a := a) (b := b) hs n
    simp [t_lfrac, h, hg, hs', hcm, e]
/-- what a maker of fractions promises, up to so many bits -/
def PkFr (G : List Nat → Option T) (F : List Nat → Option Fn) (n : Nat) (g : List Nat) (B : Nat) : Prop := ∀ a b : Int, b ≠ 0 → b.natAbs < 2 ^ B → runP G F n g [.int a, .int b] = some (fr (Rat.divInt a b))
theorem pun_plus {g : List Nat} (hf : F f = some (t_two g .add)) {n B : Nat} (hg : PkFr G F n g B) {p q : Rat} {s t : Nat} (hp : Sz s p) (hq : Sz t q) (hs : 0 < s) (ht : 0 < t) (h : s + t ≤ B) (hB : B ≤ 100000) : runP G F (n + 1) f [fr p, fr q] = some (fr (p + q)) := by
  obtain ⟨h1, h2, h3⟩ := two_args hp hq hs ht (by omega)
  have h3' : p.den.log2 + q.den.log2 < 1000000 := by simpa using h3
  have h2' : q.num.natAbs.log2 + p.den.log2 < 1000000 := by simpa using h2
  have h1' : p.num.natAbs.log2 + q.den.log2 < 1000000 := by simpa using h1
  have hd := den_ok hp hq h
  have e := hg (p.num * q.den + q.num * p.den) (p.den * q.den) hd.1 hd.2
  have e2 : Rat.divInt (p.num * q.den + q.num * p.den) ((p.den : Int) * q.den) = p + q := by
    have e : ((p.den : Int) * q.den) = ((p.den * q.den : Nat) : Int) := by simp
    rw [e, Rat.divInt_ofNat, Rat.add_def']
  rw [e2] at e
  rw [runP1 hf _ _ rfl]
  simp [t_two, h1', h2', h3', fr] at e ⊢
  simp [e]
theorem pun_minus {g : List Nat} (hf : F f = some (t_two g .sub)) {n B : Nat} (hg : PkFr G F n g B) {p q : Rat} {s t : Nat} (hp : Sz s p) (hq : Sz t q) (hs : 0 < s) (ht : 0 < t) (h : s + t ≤ B) (hB : B ≤ 100000) : runP G F (n + 1) f [fr p, fr q] = some (fr (p - q)) := by
  obtain ⟨h1, h2, h3⟩ := two_args hp hq hs ht (by omega)
  have h3' : p.den.log2 + q.den.log2 < 1000000 := by simpa using h3
  have h2' : q.num.natAbs.log2 + p.den.log2 < 1000000 := by simpa using h2
  have h1' : p.num.natAbs.log2 + q.den.log2 < 1000000 := by simpa using h1
  have hd := den_ok hp hq h
  have e := hg (p.num * q.den - q.num * p.den) (p.den * q.den) hd.1 hd.2
  have e2 : Rat.divInt (p.num * q.den - q.num * p.den) ((p.den : Int) * q.den) = p - q := by
    have e : ((p.den : Int) * q.den) = ((p.den * q.den : Nat) : Int) := by simp
    rw [e, Rat.divInt_ofNat, Rat.sub_def']
  rw [e2] at e
  rw [runP1 hf _ _ rfl]
  simp [t_two, h1', h2', h3', fr] at e ⊢
  simp [e]
theorem pkfr (hf : F f = some t_fraction) (n : Nat) : PkFr G F (n + 1) f 9000 := fun _ _ h1 h2 => pun_fraction hf h1 h2 n
theorem pklfr (hf : F f = some (t_lfrac c)) (hc : F c = some t_common) (n : Nat) : PkFr G F (n + 2) f 600 := fun _ _ h1 h2 => pun_lfrac hf hc h1 h2 n
end
end Ev
namespace Ev
open PySem (sizeLine)
section
variable {G : List Nat → Option T} {C : List Nat → List T → Option T} {p : PE} {α : Type}
theorem pv_lc_all {elt it : E} {tg : Tg} {own : List Nat} {l : List α} (h g : α → T) (hi : (pden G C it).i p = some (l.map h)) (he : ∀ a ∈ l, (pbind tg (h a) p).bind (fun p1 => (pden G C elt).v p1) = some (g a)) (hz : l.length ≤ 100000) : (pden G C (.lc elt tg it [] own)).v p = some (.lst (l.map g)) := by
  rw [pv_lc, hi, Option.bind_some, lcP_map, lcP_all (g := g), Option.bind_some, lstV_ok (by simpa using hz)]
  intro a m
  obtain ⟨p1, e1, e2⟩ := obind (he a m)
  simp [e1, e2]
theorem pv_lc_sel {elt it c : E} {tg : Tg} {own : List Nat} {l : List α} (h g : α → T) (b : α → Bool) (hi : (pden G C it).i p = some (l.map h)) (he : ∀ a ∈ l, ∃ p1, pbind tg (h a) p = some p1 ∧ (pden G C c).t p1 = some (b a) ∧ (b a = true → (pden G C elt).v p1 = some (g a))) (hz : l.length ≤ 100000) : (pden G C (.lc elt tg it [c] own)).v p = some (.lst ((l.filter b).map g)) := by
  rw [pv_lc, hi, Option.bind_some, lcP_map, lcP_sel (c := b) (g := g), Option.bind_some, lstV_ok]
  · rw [List.length_map]; exact Nat.le_trans (List.length_filter_le _ _) hz
  · intro a m
    obtain ⟨p1, e1, e2, e3⟩ := he a m
    cases hb : b a
    · simp [e1, e2, hb]
    · simp [e1, e2, hb, e3 hb]
/-- a walk, each of whose turns leaves a frame of one kind -/
theorem forP_keep {b : T → PE → Option PE} {f : PE → Option PF} {h : α → T} {l : List α} (P : PE → Prop) {p : PE} (h0 : P p) (step : ∀ a ∈ l, ∀ p, P p → ∃ p1 p2, b (h a) p = some p1 ∧ (f p1 = some (.nx p2) ∨ f p1 = some (.ct p2)) ∧ P p2) : ∃ p', forP b f (l.map h) p = some (.nx p') ∧ P p' := by
  obtain ⟨p', e, hp⟩ := forP_inv0 (b := b) (f := f) (l.map h) (fun _ p => P p) h0 (fun j x p hx hP => by
    rw [List.getElem?_map] at hx
    obtain ⟨a, ha, rfl⟩ := Option.map_eq_some_iff.mp hx
    exact step a (List.mem_of_getElem? ha) p hP)
  exact ⟨p', e, hp⟩
end
theorem ints_at {ds : List Int} {k : Nat} (h : k < ds.length) : (ds.map T.int)[k]? = some (.int (ds.getD k 0)) := by simp [h]
theorem ints_atI {ds : List Int} {k : Nat} (h : k < ds.length) : L2.atI (ds.map T.int) (k : Int) = some (.int (ds.getD k 0)) := by rw [atI_ofNat, ints_at h]
theorem mod_rng (a : Int) {b : Int} (h : 0 < b) : 0 ≤ a % b ∧ a % b < b := ⟨Int.emod_nonneg _ (by omega), Int.emod_lt_of_pos _ h⟩
/-- a drawn number, as one of the list -/
theorem draw_at {ds : List Int} {c : Nat} {L : Int} (hl : ds.length = c) (hd : ∀ d ∈ ds, 0 ≤ d ∧ d < L) {k : Nat} (h : k < c) : 0 ≤ ds.getD k 0 ∧ ds.getD k 0 < L := by
  have h' : k < ds.length := by omega
  rw [List.getD_eq_getElem?_getD, List.getElem?_eq_getElem h']
  exact hd _ (List.getElem_mem _)
@[simp] theorem cmp_neb {b b' : Bool} : cmpV .ne (.bl b) (.bl b') = some (!(b == b')) := rfl
@[simp] theorem eqTL_ints : ∀ {xs ys : List Int}, eqTL (xs.map T.int) (ys.map T.int) = decide (xs = ys)
  | [], [] => rfl
  | [], _ :: _ => rfl
  | _ :: _, [] => rfl
  | x :: xs, y :: ys => by
    show (x == y && eqTL (xs.map T.int) (ys.map T.int)) = _
    rw [eqTL_ints]
    by_cases h : x = y <;> simp [h]
theorem dep_ints {n : Nat} : ∀ {xs : List Int}, depLeL n (xs.map T.int) = true
  | [] => by cases n <;> rfl
  | x :: xs => by
    rw [List.map_cons, depLeL, dep_ints]
    cases n <;> rfl
@[simp] theorem cmp_eq_ints {xs ys : List Int} : cmpV .eq (.lst (xs.map T.int)) (.lst (ys.map T.int)) = some (decide (xs = ys)) := by
  rw [cmp_eq (by exact dep_ints) (by exact dep_ints)]
  show some (eqTL _ _) = _
  rw [eqTL_ints]
@[simp] theorem cmp_ne_ints {xs ys : List Int} : cmpV .ne (.lst (xs.map T.int)) (.lst (ys.map T.int)) = some (!decide (xs = ys)) := by
  rw [cmp_ne (by exact dep_ints) (by exact dep_ints)]
  show some (!eqTL _ _) = _
  rw [eqTL_ints]
@[simp] theorem mem_ints {x : Int} {xs : List Int} : memV (.int x) (.lst (xs.map T.int)) = some (decide (x ∈ xs)) := by
  have h1 : (xs.map T.int).all flatT = true := by simp [flatT]
  have h2 : ∀ ys : List Int, memT (.int x) (ys.map T.int) = decide (x ∈ ys) := by
    intro ys
    induction ys with
    | nil => rfl
    | cons y ys ih =>
      show (y == x || memT (.int x) (ys.map T.int)) = _
      rw [ih]
      by_cases h : y = x
      · simp [h]
      · have h' : ¬ x = y := fun q => h q.symm
        simp [h, h']
  show (if flatT (.int x) && (xs.map T.int).all flatT then some (memT (.int x) (xs.map T.int)) else none) = _
  rw [h1, h2]; rfl
theorem ixN_nat {n : Nat} {i : Int} (h0 : 0 ≤ i) (h : i < n) : L2.ixN n i = some i.toNat := by
  unfold L2.ixN
  rw [if_pos h0, if_pos (by omega)]
section
open L2
variable {α : Type}
theorem cut_take {xs : List α} {k : Nat} : cutT xs (some 0) (some (k : Int)) = xs.take k := by
  unfold cutT HT.sIx
  have h1 : ¬ ((0 : Int) < 0) := by decide
  have h2 : ¬ ((k : Int) < 0) := by omega
  simp only [h1, h2, if_false, Int.toNat_zero, Int.toNat_natCast, Nat.zero_min, Nat.sub_zero, List.drop_zero]
  by_cases h : k ≤ xs.length
  · rw [Nat.min_eq_left h]
  · rw [Nat.min_eq_right (by omega), List.take_length, List.take_of_length_le (by omega)]
theorem cut_take' {xs : List α} {k : Nat} : cutT xs none (some (k : Int)) = xs.take k := by
  unfold cutT HT.sIx
  have h2 : ¬ ((k : Int) < 0) := by omega
  simp only [h2, if_false, Int.toNat_natCast, Nat.sub_zero, List.drop_zero]
  by_cases h : k ≤ xs.length
  · rw [Nat.min_eq_left h]
  · rw [Nat.min_eq_right (by omega), List.take_length, List.take_of_length_le (by omega)]
theorem cut_drop {xs : List α} {k : Nat} : cutT xs (some (k : Int)) none = xs.drop k := by
  unfold cutT HT.sIx
  have h2 : ¬ ((k : Int) < 0) := by omega
  simp only [h2, if_false, Int.toNat_natCast]
  by_cases h : k ≤ xs.length
  · rw [Nat.min_eq_left h, List.take_of_length_le (by simp)]
  · rw [Nat.min_eq_right (by omega), List.drop_of_length_le (Nat.le_refl _), List.drop_of_length_le (by omega)]; simp
end
theorem ints_take {xs : List Int} {k : Nat} : intsV ((xs.map T.int).take k) = some (xs.take k) := by rw [← List.map_take, intsV_map]
end Ev
namespace Ev
/-- so many twelfths .. -/
def Dg (N d : Nat) (q : Rat) : Prop := ∃ z : Int, q * ((N ^ d : Nat) : Rat) = (z : Rat) ∧ z.natAbs ≤ 64 ^ d * N ^ d
theorem Dg.den {N d : Nat} {q : Rat} (hN : 0 < N) (h : Dg N d q) : q.den ∣ N ^ d ∧ q.num.natAbs ≤ 64 ^ d * q.den := by
  obtain ⟨z, h1, h2⟩ := h
  have hp : 0 < N ^ d := Nat.pow_pos hN
  have hq : q = Rat.divInt z (N ^ d : Nat) := by
    rw [Rat.divInt_eq_div]
    have hne : ((N ^ d : Nat) : Rat) ≠ 0 := by
      intro e
      have := (Rat.natCast_eq_zero_iff).mp e
      omega
    rw [← h1]
    show q = q * _ / (((N ^ d : Nat) : Int) : Rat)
    rw [Rat.intCast_natCast, Rat.mul_div_cancel hne]
  have hd : q.den ∣ N ^ d := by
    rw [hq, Rat.divInt_ofNat, Rat.den_mkRat, if_neg (by omega)]
    exact Nat.div_dvd_of_dvd (Nat.gcd_dvd_left _ _)
  refine ⟨hd, ?_⟩
  have e : q.num * (N ^ d : Nat) = z * q.den := by
    have : Rat.divInt z (N ^ d : Nat) = Rat.divInt q.num q.den := by rw [← hq, Rat.num_divInt_den]
    exact ((Rat.divInt_eq_divInt_iff (by omega) (by have := q.den_nz; omega)).mp this).symm
  have e2 := congrArg Int.natAbs e
  rw [Int.natAbs_mul, Int.natAbs_mul, Int.natAbs_natCast, Int.natAbs_natCast] at e2
  have : q.num.natAbs * N ^ d ≤ (64 ^ d * q.den) * N ^ d := by
    rw [e2]
    calc z.natAbs * q.den ≤ (64 ^ d * N ^ d) * q.den := Nat.mul_le_mul_right _ h2
      _ = (64 ^ d * q.den) * N ^ d := by rw [Nat.mul_assoc, Nat.mul_comm (N ^ d), Nat.mul_assoc]
  exact Nat.le_of_mul_le_mul_right this hp
theorem Dg.sz {N d s : Nat} {q : Rat} (hN : 0 < N) (hN2 : N ≤ 64) (h : Dg N d q) (hs : 12 * d + 1 ≤ s) : Sz s q := by
  obtain ⟨h1, h2⟩ := h.den hN
  have h3 : q.den ≤ N ^ d := Nat.le_of_dvd (Nat.pow_pos hN) h1
  have h4 : N ^ d ≤ 64 ^ d := Nat.pow_le_pow_left hN2 d
  have h5 : (64 : Nat) ^ d = 2 ^ (6 * d) := by rw [Nat.pow_mul]
  have h6 : q.den ≤ 2 ^ (6 * d) := by omega
  constructor
  · have : q.num.natAbs ≤ 2 ^ (12 * d) := by
      calc q.num.natAbs ≤ 64 ^ d * q.den := h2
        _ ≤ 2 ^ (6 * d) * 2 ^ (6 * d) := by rw [h5]; exact Nat.mul_le_mul_left _ h6
        _ = 2 ^ (12 * d) := by rw [← Nat.pow_add]; congr 1; omega
    exact Nat.lt_of_le_of_lt this (Nat.pow_lt_pow_right (by decide) (by omega))
  · exact Nat.lt_of_le_of_lt h6 (Nat.pow_lt_pow_right (by decide) (by omega))
theorem Dg.den_lt {N d s : Nat} {q : Rat} (hN : 0 < N) (hN2 : N ≤ 64) (h : Dg N d q) (hs : 6 * d + 1 ≤ s) : q.den < 2 ^ s := by
  obtain ⟨h1, h2⟩ := h.den hN
  have h3 : q.den ≤ N ^ d := Nat.le_of_dvd (Nat.pow_pos hN) h1
  have h4 : N ^ d ≤ 64 ^ d := Nat.pow_le_pow_left hN2 d
  have h5 : (64 : Nat) ^ d = 2 ^ (6 * d) := by rw [Nat.pow_mul]
  exact Nat.lt_of_le_of_lt (by omega : q.den ≤ 2 ^ (6 * d)) (Nat.pow_lt_pow_right (by decide) (by omega))
theorem Dg.mul {N d e : Nat} {p q : Rat} (hp : Dg N d p) (hq : Dg N e q) : Dg N (d + e) (p * q) := by
  obtain ⟨z, a, b⟩ := hp
  obtain ⟨y, a', b'⟩ := hq
  refine ⟨z * y, ?_, ?_⟩
  · rw [Nat.pow_add, Rat.natCast_mul, Rat.intCast_mul, ← a, ← a']; grind
  · rw [Int.natAbs_mul, Nat.pow_add, Nat.pow_add]
    calc _ ≤ (64 ^ d * N ^ d) * (64 ^ e * N ^ e) := Nat.mul_le_mul b b'
      _ = _ := by grind
/-- so many of them together -/
def DgM (N d m : Nat) (q : Rat) : Prop := ∃ z : Int, q * ((N ^ d : Nat) : Rat) = (z : Rat) ∧ z.natAbs ≤ m * (64 ^ d * N ^ d)
theorem Dg.one {N d q} (h : Dg N d q) : DgM N d 1 q := by
  obtain ⟨z, a, b⟩ := h
  exact ⟨z, a, by omega⟩
theorem DgM.add {N d m n : Nat} {p q : Rat} (hp : DgM N d m p) (hq : DgM N d n q) : DgM N d (m + n) (p + q) := by
  obtain ⟨z, a, b⟩ := hp
  obtain ⟨y, a', b'⟩ := hq
  refine ⟨z + y, ?_, ?_⟩
  · rw [Rat.add_mul, a, a', Rat.intCast_add]
  · rw [Nat.add_mul]; omega
theorem DgM.up {N d m : Nat} {q : Rat} (hN : 0 < N) (h : DgM N d m q) (hm : m ≤ 64) : Dg N (d + 1) q := by
  obtain ⟨z, a, b⟩ := h
  refine ⟨z * N, ?_, ?_⟩
  · rw [Nat.pow_succ, Rat.natCast_mul, ← Rat.mul_assoc, a, Rat.intCast_mul, Rat.intCast_natCast]
  · rw [Int.natAbs_mul, Int.natAbs_natCast]
    calc z.natAbs * N ≤ (m * (64 ^ d * N ^ d)) * N := Nat.mul_le_mul_right _ b
      _ ≤ (64 * (64 ^ d * N ^ d)) * N := Nat.mul_le_mul_right _ (Nat.mul_le_mul_right _ hm)
      _ = 64 ^ (d + 1) * N ^ (d + 1) := by rw [Nat.pow_succ, Nat.pow_succ]; grind
theorem Dg.zero {N d : Nat} : DgM N d 0 0 := ⟨0, by simp [Rat.zero_mul], by simp⟩
theorem Dg.mono {N d e : Nat} {q : Rat} (hN : 0 < N) (h : Dg N d q) (he : d ≤ e) : Dg N e q := by
  induction he with
  | refl => exact h
  | step _ ih => exact ih.one.up hN (by decide)
theorem Dg.int {N : Nat} {i : Int} (h : i.natAbs ≤ 64) : Dg N 1 (i : Rat) := by
  refine ⟨i * N, ?_, ?_⟩
  · rw [Nat.pow_one, Rat.intCast_mul, Rat.intCast_natCast]
  · rw [Int.natAbs_mul, Int.natAbs_natCast, Nat.pow_one, Nat.pow_one]; exact Nat.mul_le_mul_right _ h
theorem Dg.frac {N : Nat} {i b : Int} (hb : 0 < b) (hd : b ∣ (N : Int)) (hN : 0 < N) (h : i.natAbs ≤ 64) : Dg N 1 (Rat.divInt i b) := by
  obtain ⟨k, hk⟩ := hd
  have hk0 : 0 < k := by
    have : 0 < b * k := by omega
    exact Int.pos_of_mul_pos_right this (by omega) 
  refine ⟨i * k, ?_, ?_⟩
  · rw [Nat.pow_one, ← Rat.intCast_natCast, hk, Rat.divInt_eq_div, Rat.intCast_mul, Rat.intCast_mul]
    have hne : (b : Rat) ≠ 0 := fun e => by have := (Rat.intCast_eq_zero_iff).mp e; omega
    rw [Rat.div_def]
    have : ((b : Rat)⁻¹ * b) = 1 := Rat.inv_mul_cancel _ hne
    grind
  · rw [Int.natAbs_mul, Nat.pow_one, Nat.pow_one]
    have : k.natAbs ≤ N := by
      have h1 : k.natAbs * 1 ≤ k.natAbs * b.natAbs := Nat.mul_le_mul_left _ (by omega)
      have h2 : k.natAbs * b.natAbs = N := by rw [Nat.mul_comm, ← Int.natAbs_mul, ← hk]; simp
      omega
    exact Nat.mul_le_mul h this
end Ev
namespace Ev
def n__law_common : List Nat := [95, 108, 97, 119, 95, 99, 111, 109, 109, 111, 110]
def n__law_frac : List Nat := [95, 108, 97, 119, 95, 102, 114, 97, 99]
def n__law_plus : List Nat := [95, 108, 97, 119, 95, 112, 108, 117, 115]
def n__law_minus : List Nat := [95, 108, 97, 119, 95, 109, 105, 110, 117, 115]
def n__law_times : List Nat := [95, 108, 97, 119, 95, 116, 105, 109, 101, 115]
def n__law_total : List Nat := [95, 108, 97, 119, 95, 116, 111, 116, 97, 108]
def n__law_sum : List Nat := [95, 108, 97, 119, 95, 115, 117, 109]
def n__law_by : List Nat := [95, 108, 97, 119, 95, 98, 121]
def n__law_reach : List Nat := [95, 108, 97, 119, 95, 114, 101, 97, 99, 104]
def n__law_worth : List Nat := [95, 108, 97, 119, 95, 119, 111, 114, 116, 104]
def n__law_words : List Nat := [95, 108, 97, 119, 95, 119, 111, 114, 100, 115]
def n__law_copy : List Nat := [95, 108, 97, 119, 95, 99, 111, 112, 121]
def n__law_item : List Nat := [95, 108, 97, 119, 95, 105, 116, 101, 109]
def n__law_machine : List Nat := [95, 108, 97, 119, 95, 109, 97, 99, 104, 105, 110, 101]
def n__law_cell : List Nat := [95, 108, 97, 119, 95, 99, 101, 108, 108]
def n__law_numbers : List Nat := [95, 108, 97, 119, 95, 110, 117, 109, 98, 101, 114, 115]
def n__law_same : List Nat := [95, 108, 97, 119, 95, 115, 97, 109, 101]
def n_fraction : List Nat := [102, 114, 97, 99, 116, 105, 111, 110]
def n_plus : List Nat := [112, 108, 117, 115]
def n_minus : List Nat := [109, 105, 110, 117, 115]
def n_times : List Nat := [116, 105, 109, 101, 115]
def n_whole : List Nat := [119, 104, 111, 108, 101]
def n_sum_of : List Nat := [115, 117, 109, 95, 111, 102]
def n_sum_by : List Nat := [115, 117, 109, 95, 98, 121]
def n_column : List Nat := [99, 111, 108, 117, 109, 110]
def n_row_by : List Nat := [114, 111, 119, 95, 98, 121]
def n_reach : List Nat := [114, 101, 97, 99, 104]
def n_stepped : List Nat := [115, 116, 101, 112, 112, 101, 100]
def n_worth : List Nat := [119, 111, 114, 116, 104]
def n_unit_row : List Nat := [117, 110, 105, 116, 95, 114, 111, 119]
def n_unit_table : List Nat := [117, 110, 105, 116, 95, 116, 97, 98, 108, 101]
def n_sum_rows : List Nat := [115, 117, 109, 95, 114, 111, 119, 115]
def n_scaled : List Nat := [115, 99, 97, 108, 101, 100]
def n__law_less : List Nat := [95, 108, 97, 119, 95, 108, 101, 115, 115]
def n__law_over : List Nat := [95, 108, 97, 119, 95, 111, 118, 101, 114]
def n_is_less : List Nat := [105, 115, 95, 108, 101, 115, 115]
def n_over : List Nat := [111, 118, 101, 114]
def n__law_ones : List Nat := [95, 108, 97, 119, 95, 111, 110, 101, 115]
def n__law_zeros : List Nat := [95, 108, 97, 119, 95, 122, 101, 114, 111, 115]
def n__law_answer : List Nat := [95, 108, 97, 119, 95, 97, 110, 115, 119, 101, 114]
-- _law_common: ['one', 'other', 'turn']
def f__law_common : Fn := ⟨2, 3, [.set 0 (.blt .abs [.mov 0]), .set 1 (.blt .abs [.mov 1]), .for_ (.nm 2) (.rng [.int 900]) [.ite (.cmp .eq (.var 1) (.int 0)) [.ret (.mov 0)] [], .par 0 1 (.var 1) (.bin .mod (.blt .int [.mov 0]) (.var 1))], .ret (.mov 0)]⟩
-- _law_frac: ['top', 'bottom', 'common']
def f__law_frac : Fn := ⟨2, 3, [.ite (.cmp .lt (.var 1) (.int 0)) [.set 0 (.bin .sub (.int 0) (.mov 0)), .set 1 (.bin .sub (.int 0) (.mov 1))] [], .set 2 (.call n__law_common [.var 0, .var 1]), .ret (.tup [.bin .fdiv (.mov 0) (.var 2), .bin .fdiv (.mov 1) (.var 2)])]⟩
-- _law_plus: ['one', 'other']
def f__law_plus : Fn := ⟨2, 2, [.ret (.call n__law_frac [.bin .add (.bin .mul (.ix (.var 0) (.int 0)) (.ix (.var 1) (.int 1))) (.bin .mul (.ix (.var 1) (.int 0)) (.ix (.var 0) (.int 1))), .bin .mul (.ix (.var 0) (.int 1)) (.ix (.var 1) (.int 1))])]⟩
-- _law_minus: ['one', 'other']
def f__law_minus : Fn := ⟨2, 2, [.ret (.call n__law_frac [.bin .sub (.bin .mul (.ix (.var 0) (.int 0)) (.ix (.var 1) (.int 1))) (.bin .mul (.ix (.var 1) (.int 0)) (.ix (.var 0) (.int 1))), .bin .mul (.ix (.var 0) (.int 1)) (.ix (.var 1) (.int 1))])]⟩
-- _law_times: ['one', 'other']
def f__law_times : Fn := ⟨2, 2, [.ret (.call n__law_frac [.bin .mul (.ix (.var 0) (.int 0)) (.ix (.var 1) (.int 0)), .bin .mul (.ix (.var 0) (.int 1)) (.ix (.var 1) (.int 1))])]⟩
-- _law_total: ['some', 'found', 'one']
def f__law_total : Fn := ⟨1, 3, [.set 1 (.tup [.int 0, .int 1]), .for_ (.nm 2) (.mov 0) [.set 1 (.call n__law_plus [.mov 1, .mov 2])], .ret (.mov 1)]⟩
-- _law_sum: ['row', 'other', 'total', 'k']
def f__law_sum : Fn := ⟨2, 4, [.set 2 (.tup [.int 0, .int 1]), .for_ (.nm 3) (.rng [.blt .len [.var 0]]) [.ite (.andv [.cmp .ne (.ix (.ix (.var 0) (.var 3)) (.int 0)) (.int 0), .cmp .ne (.ix (.ix (.var 1) (.var 3)) (.int 0)) (.int 0)]) [.set 2 (.call n__law_plus [.mov 2, .call n__law_times [.ix (.var 0) (.var 3), .ix (.var 1) (.var 3)]])] []], .ret (.mov 2)]⟩
-- _law_by: ['row', 'table', 'j', 'line']
def f__law_by : Fn := ⟨2, 4, [.ret (.lc (.call n__law_sum [.var 0, .lc (.ix (.var 3) (.var 2)) (.nm 3) (.var 1) [] [3]]) (.nm 2) (.rng [.blt .len [.ix (.var 1) (.int 0)]]) [] [2])]⟩
-- _law_reach: ['machine', 'word', 'row', 'letter']
def f__law_reach : Fn := ⟨2, 4, [.set 2 (.blt .list [.ix (.var 0) (.int 1)]), .for_ (.nm 3) (.mov 1) [.set 2 (.call n__law_by [.mov 2, .ix (.ix (.var 0) (.int 2)) (.meth .sindex (.ix (.var 0) (.int 0)) [.mov 3])])], .ret (.mov 2)]⟩
-- _law_worth: ['machine', 'word']
def f__law_worth : Fn := ⟨2, 2, [.ret (.call n__law_sum [.call n__law_reach [.var 0, .mov 1], .ix (.var 0) (.int 3)])]⟩
-- _law_words: ['letters', 'length', 'found', 'layer', 'k', 'more', 'word', 'letter']
def f__law_words : Fn := ⟨2, 8, [.set 2 (.lst [.str []]), .set 3 (.lst [.str []]), .for_ (.nm 4) (.rng [.mov 1]) [.set 5 (.lst []), .for_ (.nm 6) (.mov 3) [.set 5 (.bin .add (.mov 5) (.lc (.bin .add (.var 6) (.var 7)) (.nm 7) (.var 0) [] [7]))], .set 3 (.mov 5), .set 2 (.bin .add (.mov 2) (.var 3))], .ret (.mov 2)]⟩
-- _law_copy: ['machine', 'table', 'row']
def f__law_copy : Fn := ⟨1, 3, [.ret (.tup [.ix (.var 0) (.int 0), .blt .list [.ix (.var 0) (.int 1)], .lc (.lc (.blt .list [.var 2]) (.nm 2) (.var 1) [] [2]) (.nm 1) (.ix (.var 0) (.int 2)) [] [1], .blt .list [.ix (.var 0) (.int 3)]])]⟩
-- _law_item: ['draw', 'kind']
def f__law_item : Fn := ⟨1, 2, [.set 1 (.bin .mod (.var 0) (.int 5)), .ite (.cmp .lt (.var 1) (.int 2)) [.ret (.tup [.int 0, .int 1])] [], .ite (.cmp .eq (.mov 1) (.int 2)) [.ret (.tup [.bin .sub (.bin .mod (.bin .fdiv (.mov 0) (.int 5)) (.int 3)) (.int 1), .int 1])] [], .ret (.call n__law_frac [.bin .sub (.bin .mod (.bin .fdiv (.var 0) (.int 5)) (.int 9)) (.int 4), .bin .add (.int 1) (.bin .mod (.bin .fdiv (.var 0) (.int 45)) (.int 4))])]⟩
-- _law_machine: ['script', 'at', 'letters', 'most', 'draws', 'size', 'items', 'start', 'end', 'steps', 'k', 'base', 'draw', 'item', 'i']
def f__law_machine : Fn := ⟨4, 15, [.set 4 (.call n__law_numbers [.call n__law_cell [.mov 0, .mov 1], .bin .add (.int 2) (.bin .mul (.var 3) (.bin .add (.int 2) (.bin .mul (.blt .len [.var 2]) (.var 3)))), .int 5040]), .set 5 (.bin .add (.int 1) (.bin .mod (.ix (.var 4) (.int 0)) (.mov 3))), .setc 6 (.call n__law_item [.var 12]) (.nm 12) (.sl (.var 4) [.int 2] []) [] [12], .ite (.cmp .eq (.bin .mod (.ix (.var 4) (.int 1)) (.int 3)) (.int 0)) [.setc 6 (.tup [.blt .abs [.ix (.var 13) (.int 0)], .int 1]) (.nm 13) (.mov 6) [] [13]] [], .set 7 (.sl (.var 6) [.int 0] [.var 5]), .set 8 (.sl (.var 6) [.var 5] [.bin .mul (.int 2) (.var 5)]), .ite (.cmp .eq (.bin .mod (.bin .fdiv (.ix (.mov 4) (.int 1)) (.int 3)) (.int 3)) (.int 0)) [.setc 7 (.tup [.blt .int [.cmp .eq (.var 10) (.int 0)], .int 1]) (.nm 10) (.rng [.var 5]) [] [10]] [], .set 9 (.lst []), .for_ (.nm 10) (.rng [.blt .len [.var 2]]) [.set 11 (.bin .add (.bin .mul (.int 2) (.var 5)) (.bin .mul (.bin .mul (.mov 10) (.var 5)) (.var 5))), .app 9 [] (.lc (.sl (.var 6) [.bin .add (.var 11) (.bin .mul (.var 14) (.var 5))] [.bin .add (.bin .add (.var 11) (.bin .mul (.var 14) (.var 5))) (.var 5)]) (.nm 14) (.rng [.var 5]) [] [14])], .ret (.tup [.mov 2, .mov 7, .mov 9, .mov 8])]⟩
-- _law_cell: ['script', 'k']
def f__law_cell : Fn := ⟨2, 2, [.ite (.cmp .lt (.var 1) (.blt .len [.var 0])) [.ret (.blt .int [.ix (.mov 0) (.mov 1)])] [], .ret (.int 0)]⟩
-- _law_numbers: ['cell', 'count', 'limit', 'found', 'k', 'mixed']
def f__law_numbers : Fn := ⟨3, 6, [.set 3 (.lst []), .ite (.cmp .ge (.var 0) (.bin .pow (.int 10) (.int 18))) [.for_ (.nm 4) (.rng [.mov 1]) [.app 3 [] (.bin .mod (.blt .int [.var 0]) (.var 2)), .set 0 (.bin .fdiv (.blt .int [.mov 0]) (.var 2))], .ret (.mov 3)] [], .for_ (.nm 4) (.rng [.mov 1]) [.set 5 (.bin .mod (.blt .int [.bin .add (.bin .add (.bin .mul (.var 0) (.int 48271)) (.bin .mul (.var 4) (.int 69621))) (.int 7)]) (.int 2147483647)), .set 5 (.bin .mod (.blt .int [.bin .add (.bin .add (.bin .add (.bin .mul (.var 5) (.var 5)) (.bin .mul (.var 5) (.int 40692))) (.bin .mul (.mov 4) (.int 16807))) (.int 11)]) (.int 2147483399)), .app 3 [] (.bin .mod (.blt .int [.bin .fdiv (.mov 5) (.int 32)]) (.var 2))], .ret (.mov 3)]⟩
-- _law_same: ['told', 'due', 'k']
def f__law_same : Fn := ⟨2, 3, [.ite (.isi (.var 1) .list) [.ite (.orv [.notv (.isi (.var 0) .list), .cmp .ne (.blt .len [.var 0]) (.blt .len [.var 1])]) [.ret (.bl false)] []] [.ite (.isi (.var 1) .tuple) [.ite (.orv [.notv (.isi (.var 0) .tuple), .cmp .ne (.blt .len [.var 0]) (.blt .len [.var 1])]) [.ret (.bl false)] []] [.ite (.cmp .is (.var 1) (.non)) [.ret (.cmp .is (.mov 0) (.non))] [.ite (.isi (.var 1) .bool) [.ret (.andv [.isi (.var 0) .bool, .cmp .eq (.var 0) (.mov 1)])] [.ite (.isi (.var 1) .int) [.ret (.andv [.isi (.var 0) .int, .notv (.isi (.var 0) .bool), .cmp .eq (.var 0) (.mov 1)])] [.ret (.andv [.isi (.var 0) .str, .cmp .eq (.var 0) (.mov 1)])]]]]], .for_ (.nm 2) (.rng [.blt .len [.var 1]]) [.ite (.notv (.call n__law_same [.ix (.var 0) (.var 2), .ix (.var 1) (.var 2)])) [.ret (.bl false)] []], .ret (.bl true)]⟩
-- fraction: ['top', 'bottom', 'common']
def f_fraction : Fn := ⟨2, 3, [.ite (.cmp .lt (.var 1) (.int 0)) [.par 0 1 (.neg (.mov 0)) (.neg (.mov 1))] [], .set 2 (.blt .gcd [.var 0, .var 1]), .ret (.tup [.bin .fdiv (.mov 0) (.var 2), .bin .fdiv (.mov 1) (.var 2)])]⟩
-- plus: ['one', 'other']
def f_plus : Fn := ⟨2, 2, [.ret (.call n_fraction [.bin .add (.bin .mul (.ix (.var 0) (.int 0)) (.ix (.var 1) (.int 1))) (.bin .mul (.ix (.var 1) (.int 0)) (.ix (.var 0) (.int 1))), .bin .mul (.ix (.var 0) (.int 1)) (.ix (.var 1) (.int 1))])]⟩
-- minus: ['one', 'other']
def f_minus : Fn := ⟨2, 2, [.ret (.call n_fraction [.bin .sub (.bin .mul (.ix (.var 0) (.int 0)) (.ix (.var 1) (.int 1))) (.bin .mul (.ix (.var 1) (.int 0)) (.ix (.var 0) (.int 1))), .bin .mul (.ix (.var 0) (.int 1)) (.ix (.var 1) (.int 1))])]⟩
-- times: ['one', 'other']
def f_times : Fn := ⟨2, 2, [.ret (.call n_fraction [.bin .mul (.ix (.var 0) (.int 0)) (.ix (.var 1) (.int 0)), .bin .mul (.ix (.var 0) (.int 1)) (.ix (.var 1) (.int 1))])]⟩
-- whole: ['number']
def f_whole : Fn := ⟨1, 1, [.ret (.tup [.mov 0, .int 1])]⟩
-- sum_of: ['some', 'found', 'one']
def f_sum_of : Fn := ⟨1, 3, [.set 1 (.glob [90, 69, 82, 79]), .for_ (.nm 2) (.mov 0) [.set 1 (.call n_plus [.mov 1, .mov 2])], .ret (.mov 1)]⟩
-- sum_by: ['row', 'other', 'one', 'two']
def f_sum_by : Fn := ⟨2, 4, [.ret (.call n_sum_of [.lc (.call n_times [.var 2, .var 3]) (.tp [(.nm 2), (.nm 3)]) (.zip (.mov 0) (.mov 1)) [] [2, 3]])]⟩
-- column: ['table', 'number', 'row']
def f_column : Fn := ⟨2, 3, [.ret (.lc (.ix (.var 2) (.var 1)) (.nm 2) (.mov 0) [] [2])]⟩
-- row_by: ['row', 'table', 'j']
def f_row_by : Fn := ⟨2, 3, [.ret (.lc (.call n_sum_by [.var 0, .call n_column [.var 1, .var 2]]) (.nm 2) (.rng [.blt .len [.ix (.var 1) (.int 0)]]) [] [2])]⟩
-- reach: ['machine', 'word', 'row', 'letter']
def f_reach : Fn := ⟨2, 4, [.set 2 (.blt .list [.ix (.var 0) (.int 1)]), .for_ (.nm 3) (.mov 1) [.set 2 (.call n_stepped [.var 0, .mov 2, .mov 3])], .ret (.mov 2)]⟩
-- stepped: ['machine', 'row', 'letter']
def f_stepped : Fn := ⟨3, 3, [.ret (.call n_row_by [.mov 1, .ix (.ix (.var 0) (.int 2)) (.meth .sindex (.ix (.var 0) (.int 0)) [.mov 2])])]⟩
-- worth: ['machine', 'word']
def f_worth : Fn := ⟨2, 2, [.ret (.call n_sum_by [.call n_reach [.var 0, .mov 1], .ix (.var 0) (.int 3)])]⟩
-- unit_row: ['size', 'number', 'k']
def f_unit_row : Fn := ⟨2, 3, [.ret (.lc (.call n_whole [.blt .int [.cmp .eq (.var 2) (.var 1)]]) (.nm 2) (.rng [.mov 0]) [] [2])]⟩
-- unit_table: ['size', 'k']
def f_unit_table : Fn := ⟨1, 2, [.ret (.lc (.call n_unit_row [.var 0, .var 1]) (.nm 1) (.rng [.var 0]) [] [1])]⟩
-- sum_rows: ['rows', 'found', 'row', 'one', 'other']
def f_sum_rows : Fn := ⟨1, 5, [.set 1 (.ix (.var 0) (.int 0)), .for_ (.nm 2) (.sl (.mov 0) [.int 1] []) [.setc 1 (.call n_plus [.var 3, .var 4]) (.tp [(.nm 3), (.nm 4)]) (.zip (.mov 1) (.mov 2)) [] [3, 4]], .ret (.blt .list [.mov 1])]⟩
-- scaled: ['row', 'factor', 'item']
def f_scaled : Fn := ⟨2, 3, [.ret (.lc (.call n_times [.var 2, .var 1]) (.nm 2) (.mov 0) [] [2])]⟩
-- _law_less: ['one', 'other']
def f__law_less : Fn := ⟨2, 2, [.ret (.cmp .lt (.bin .mul (.ix (.var 0) (.int 0)) (.ix (.var 1) (.int 1))) (.bin .mul (.ix (.var 1) (.int 0)) (.ix (.var 0) (.int 1))))]⟩
-- _law_over: ['one', 'other']
def f__law_over : Fn := ⟨2, 2, [.ret (.call n__law_frac [.bin .mul (.ix (.var 0) (.int 0)) (.ix (.var 1) (.int 1)), .bin .mul (.ix (.var 0) (.int 1)) (.ix (.var 1) (.int 0))])]⟩
-- is_less: ['one', 'other']
def f_is_less : Fn := ⟨2, 2, [.ret (.cmp .lt (.bin .mul (.ix (.var 0) (.int 0)) (.ix (.var 1) (.int 1))) (.bin .mul (.ix (.var 1) (.int 0)) (.ix (.var 0) (.int 1))))]⟩
-- over: ['one', 'other']
def f_over : Fn := ⟨2, 2, [.ret (.call n_fraction [.bin .mul (.ix (.var 0) (.int 0)) (.ix (.var 1) (.int 1)), .bin .mul (.ix (.var 0) (.int 1)) (.ix (.var 1) (.int 0))])]⟩
-- _law_ones: ['size', 'i', 'k']
def f__law_ones : Fn := ⟨1, 3, [.ret (.lc (.lc (.tup [.blt .int [.cmp .eq (.var 1) (.var 2)], .int 1]) (.nm 2) (.rng [.var 0]) [] [2]) (.nm 1) (.rng [.var 0]) [] [1])]⟩
-- _law_zeros: ['size', 'k']
def f__law_zeros : Fn := ⟨1, 2, [.ret (.lc (.tup [.int 0, .int 1]) (.nm 1) (.rng [.mov 0]) [] [1])]⟩
-- _law_answer: ['told', 'due']
def i__law_answer : List S := [.ite (.notv (.call n__law_same [.var 0, .mov 1])) [.ret (.bl false)] [], .app 0 [.int 1] (.int 0), .app 0 [.int 2, .int 0, .int 0] (.int 0), .app 0 [.int 2] (.int 0), .app 0 [.int 3] (.int 0)]
def f__law_answer : Fn := ⟨2, 2, i__law_answer.map ownM ++ [.ret (.tup [.bl true, .mov 0])]⟩
end Ev
namespace Ev
open PySem (sizeLine)
def rowT (r : List Rat) : T := .lst (r.map fr)
def tabT (m : List (List Rat)) : T := .lst (m.map rowT)
/-- the laws' fractions -/
structure LFr (F : List Nat → Option Fn) : Prop where
  cm : F n__law_common = some f__law_common
  fc : F n__law_frac = some f__law_frac
  pl : F n__law_plus = some f__law_plus
  ti : F n__law_times = some f__law_times
/-- the program's fractions -/
structure PFr (F : List Nat → Option Fn) : Prop where
  fc : F n_fraction = some f_fraction
  pl : F n_plus = some f_plus
  ti : F n_times = some f_times
section
variable {G : List Nat → Option T} {F : List Nat → Option Fn} {N d e : Nat} {p q : Rat}
theorem LFr.mk_ (L : LFr F) (n : Nat) : PkFr G F (n + 2) n__law_frac 600 := pklfr L.fc L.cm n
theorem PFr.mk_ (L : PFr F) (n : Nat) : PkFr G F (n + 1) n_fraction 9000 := pkfr L.fc n
def f_tm (f : List Nat) : Fn := ⟨2, 2, [.ret (.call f [.bin .mul (.ix (.var 0) (.int 0)) (.ix (.var 1) (.int 0)), .bin .mul (.ix (.var 0) (.int 1)) (.ix (.var 1) (.int 1))])]⟩
theorem pun_times {f g : List Nat} (hf : F f = some (f_tm g)) {n B : Nat} (hg : PkFr G F n g B) {s t : Nat} (hp : Sz s p) (hq : Sz t q) (hs : 0 < s) (ht : 0 < t) (h : s + t ≤ B) (hB : B ≤ 100000) : runP G F (n + 1) f [fr p, fr q] = some (fr (p * q)) := by
  obtain ⟨h1, h2, h3⟩ := two_args hp hq hs ht (by omega)
  have h3' : p.den.log2 + q.den.log2 < 1000000 := by simpa using h3
  have h4 := mul_ok hp.1 hq.1 hs ht (by omega)
  have hd := den_ok hp hq h
  have e := hg (p.num * q.num) (p.den * q.den) hd.1 hd.2
  have e2 : Rat.divInt (p.num * q.num) ((p.den : Int) * q.den) = p * q := by
    have e : ((p.den : Int) * q.den) = ((p.den * q.den : Nat) : Int) := by simp
    rw [e, Rat.divInt_ofNat, Rat.mul_def']
  rw [e2] at e
  rw [runP1 hf _ _ rfl]
  simp [f_tm, h4, h3', fr] at e ⊢
  simp [e]
theorem lplus (L : LFr F) (hN : 0 < N) (hN2 : N ≤ 64) (hp : Dg N d p) (hq : Dg N e q) (h : 12 * (d + e) + 2 ≤ 600) (n : Nat) : runP G F (n + 3) n__law_plus [fr p, fr q] = some (fr (p + q)) :=
  pun_plus (f := n__law_plus) (g := n__law_frac) L.pl (L.mk_ n) (hp.sz hN hN2 (Nat.le_refl _)) (hq.sz hN hN2 (Nat.le_refl _)) (by omega) (by omega) (by omega) (by omega)
theorem ltimes (L : LFr F) (hN : 0 < N) (hN2 : N ≤ 64) (hp : Dg N d p) (hq : Dg N e q) (h : 12 * (d + e) + 2 ≤ 600) (n : Nat) : runP G F (n + 3) n__law_times [fr p, fr q] = some (fr (p * q)) :=
  pun_times (f := n__law_times) (g := n__law_frac) L.ti (L.mk_ n) (hp.sz hN hN2 (Nat.le_refl _)) (hq.sz hN hN2 (Nat.le_refl _)) (by omega) (by omega) (by omega) (by omega)
theorem pplus (L : PFr F) (hN : 0 < N) (hN2 : N ≤ 64) (hp : Dg N d p) (hq : Dg N e q) (h : 12 * (d + e) + 2 ≤ 9000) (n : Nat) : runP G F (n + 2) n_plus [fr p, fr q] = some (fr (p + q)) :=
  pun_plus (f := n_plus) (g := n_fraction) L.pl (L.mk_ n) (hp.sz hN hN2 (Nat.le_refl _)) (hq.sz hN hN2 (Nat.le_refl _)) (by omega) (by omega) (by omega) (by omega)
theorem ptimes (L : PFr F) (hN : 0 < N) (hN2 : N ≤ 64) (hp : Dg N d p) (hq : Dg N e q) (h : 12 * (d + e) + 2 ≤ 9000) (n : Nat) : runP G F (n + 2) n_times [fr p, fr q] = some (fr (p * q)) :=
  pun_times (f := n_times) (g := n_fraction) L.ti (L.mk_ n) (hp.sz hN hN2 (Nat.le_refl _)) (hq.sz hN hN2 (Nat.le_refl _)) (by omega) (by omega) (by omega) (by omega)
/-- a row by a column -/
def dot : List Rat → List Rat → Rat
  | x :: xs, y :: ys => x * y + dot xs ys
  | _, _ => 0
theorem dot_dgm : ∀ {r o : List Rat}, (∀ x ∈ r, Dg N d x) → (∀ y ∈ o, Dg N e y) → DgM N (d + e) r.length (dot r o)
  | [], _, _, _ => by simp only [dot]; exact Dg.zero
  | _ :: xs, [], _, _ => by simp only [dot]; exact ⟨0, by simp, by simp⟩
  | x :: xs, y :: ys, hr, ho => by
    simp only [dot, List.length_cons, Nat.add_comm xs.length 1]
    exact ((hr x (by simp)).mul (ho y (by simp))).one.add (dot_dgm (fun z m => hr z (by simp [m])) (fun z m => ho z (by simp [m])))
theorem dot_dg (hN : 0 < N) {r o : List Rat} (hr : ∀ x ∈ r, Dg N d x) (ho : ∀ y ∈ o, Dg N e y) (hl : r.length ≤ 64) : Dg N (d + e + 1) (dot r o) := (dot_dgm hr ho).up hN hl
def b_lsum : List S := [.ite (.andv [.cmp .ne (.ix (.ix (.var 0) (.var 3)) (.int 0)) (.int 0), .cmp .ne (.ix (.ix (.var 1) (.var 3)) (.int 0)) (.int 0)]) [.set 2 (.call n__law_plus [.mov 2, .call n__law_times [.ix (.var 0) (.var 3), .ix (.var 1) (.var 3)]])] []]
theorem fr_zero : fr 0 = .tup [.int 0, .int 1] := rfl
theorem num_ne {q : Rat} : (q.num = 0) ↔ q = 0 := Rat.num_eq_zero
theorem lsum_loop (L : LFr F) (hN : 0 < N) (hN2 : N ≤ 64) (hB : 12 * (2 * (d + e) + 1) + 2 ≤ 600) {r o : List Rat} (hr : ∀ x ∈ r, Dg N d x) (ho : ∀ y ∈ o, Dg N e y) (n : Nat) : ∀ (r' o' : List Rat) (k m : Nat) (acc : Rat) (s3 : Option T), r.drop k = r' → o.drop k = o' → r'.length ≤ o'.length → DgM N (d + e) m acc → m + r'.length ≤ 64 → ∃ s3',
    forP (fun x p => pbind (.nm 3) x p) (pSs G (runP G F (n + 3)) b_lsum) ((List.range' k r'.length).map fun i => T.int (i : Nat)) [some (rowT r), some (rowT o), some (fr acc), s3] = some (.nx [some (rowT r), some (rowT o), some (fr (acc + dot r' o')), s3'])
  | [], o', k, m, acc, s3, _, _, _, _, _ => ⟨s3, by simp [dot, Rat.add_zero]⟩
  | x :: r', [], k, m, acc, s3, _, _, hl, _, _ => by simp at hl
  | x :: r', y :: o', k, m, acc, s3, hd, hd2, hl, ha, hm => by
    have hk : r[k]? = some x := by
      have := List.getElem?_drop (xs := r) (i := k) (j := 0)
      rw [hd] at this
      simpa using this.symm
    have hk2 : o[k]? = some y := by
      have := List.getElem?_drop (xs := o) (i := k) (j := 0)
      rw [hd2] at this
      simpa using this.symm
    have hr1 : r.drop (k + 1) = r' := by rw [← List.drop_drop, hd]; rfl
    have ho1 : o.drop (k + 1) = o' := by rw [← List.drop_drop, hd2]; rfl
    have gx : L2.atI (r.map fr) (k : Int) = some (fr x) := by rw [atI_ofNat, List.getElem?_map, hk]; rfl
    have gy : L2.atI (o.map fr) (k : Int) = some (fr y) := by rw [atI_ofNat, List.getElem?_map, hk2]; rfl
    have dx := hr x (List.mem_of_getElem? hk)
    have dy := ho y (List.mem_of_getElem? hk2)
    have hm' : m + (r'.length + 1) ≤ 64 := hm
    have t1 := ltimes L hN hN2 (G := G) dx dy (by omega) n
    have t2 := lplus L hN hN2 (G := G) (ha.up hN (by omega)) (dx.mul dy) (by omega) n
    have ha' := ha.add (dx.mul dy).one
    obtain ⟨s3', ih⟩ := lsum_loop L hN hN2 hB hr ho n r' o' (k + 1) (m + 1) (acc + x * y) (some (.int k)) hr1 ho1 (by simpa using hl) ha' (by omega)
    refine ⟨s3', ?_⟩
    rw [show acc + dot (x :: r') (y :: o') = acc + x * y + dot r' o' by simp only [dot]; grind, ← ih]
    rw [List.length_cons, List.range'_succ, List.map_cons, forP_cons]
    congr 1
    have fx : fr x = .tup [.int x.num, .int x.den] := rfl
    have fy : fr y = .tup [.int y.num, .int y.den] := rfl
    by_cases h0 : x = 0
    · have hx0 : x.num = 0 := num_ne.mpr h0
      have : x * y = 0 := by rw [h0, Rat.zero_mul]
      rw [this, Rat.add_zero]
      rw [fx] at gx
      simp [b_lsum, rowT, -atI_ofNat, gx, hx0]
    · by_cases h1 : y = 0
      · have hy0 : y.num = 0 := num_ne.mpr h1
        have hx0 : ¬ x.num = 0 := fun h => h0 (num_ne.mp h)
        have : x * y = 0 := by rw [h1, Rat.mul_zero]
        rw [this, Rat.add_zero]
        rw [fx] at gx
        rw [fy] at gy
        simp [b_lsum, rowT, -atI_ofNat, gx, gy, hx0, hy0]
      · have hx0 : ¬ x.num = 0 := fun h => h0 (num_ne.mp h)
        have hy0 : ¬ y.num = 0 := fun h => h1 (num_ne.mp h)
        have t1' := t1
        rw [fx, fy] at t1'
        rw [fx] at gx
        rw [fy] at gy
        simp [b_lsum, rowT, -atI_ofNat, gx, gy, hx0, hy0, t1', t2]
theorem lsum (L : LFr F) (hs : F n__law_sum = some f__law_sum) (hN : 0 < N) (hN2 : N ≤ 64) (hB : 12 * (2 * (d + e) + 1) + 2 ≤ 600) {r o : List Rat} (hr : ∀ x ∈ r, Dg N d x) (ho : ∀ y ∈ o, Dg N e y) (hl : r.length ≤ o.length) (hl2 : r.length ≤ 64) (n : Nat) : runP G F (n + 4) n__law_sum [rowT r, rowT o] = some (fr (dot r o)) := by
  obtain ⟨s3', h⟩ := lsum_loop (G := G) L hN hN2 hB hr ho n r o 0 0 0 none rfl rfl hl Dg.zero (by omega)
  have hr := rng_n (n := r.length) (by omega)
  have hrr : List.range r.length = List.range' 0 r.length := List.range_eq_range' ..
  rw [hrr] at hr
  rw [show n + 4 = (n + 3) + 1 from rfl, runP1 hs _ _ rfl]
  rw [Rat.zero_add, fr_zero] at h
  unfold b_lsum at h
  simp only [pbind_nm, rowT] at h
  simp [f__law_sum, rowT, hr, h]
theorem psum_loop (L : PFr F) (hN : 0 < N) (hN2 : N ≤ 64) (hB : 12 * (2 * d + 1) + 2 ≤ 9000) (s0 : Option T) (n : Nat) : ∀ (xs : List Rat) (m : Nat) (acc : Rat) (s2 : Option T), (∀ x ∈ xs, Dg N d x) → DgM N d m acc → m + xs.length ≤ 64 → ∃ s2',
    forP (fun x p => pbind (.nm 2) x p) (pSs G (runP G F (n + 2)) [.set 1 (.call n_plus [.mov 1, .mov 2])]) (xs.map fr) [s0, some (fr acc), s2] = some (.nx [s0, some (fr (acc + xs.sum)), s2'])
  | [], m, acc, s2, _, _, _ => ⟨s2, by simp [Rat.add_zero]⟩
  | x :: xs, m, acc, s2, hx, ha, hm => by
    have hm' : m + (xs.length + 1) ≤ 64 := hm
    have t2 := pplus L hN hN2 (G := G) (ha.up hN (by omega)) (hx x (by simp)) (by omega) n
    obtain ⟨s2', ih⟩ := psum_loop L hN hN2 hB s0 n xs (m + 1) (acc + x) (some (fr x)) (fun y m => hx y (by simp [m])) (ha.add (hx x (by simp)).one) (by omega)
    refine ⟨s2', ?_⟩
    rw [show acc + (x :: xs).sum = acc + x + xs.sum by rw [List.sum_cons]; grind, ← ih, List.map_cons, forP_cons]
    simp [t2]
def n_ZERO : List Nat := [90, 69, 82, 79]
theorem psum (L : PFr F) (hs : F n_sum_of = some f_sum_of) (hZ : G n_ZERO = some (fr 0)) (hN : 0 < N) (hN2 : N ≤ 64) (hB : 12 * (2 * d + 1) + 2 ≤ 9000) {xs : List Rat} (hx : ∀ x ∈ xs, Dg N d x) (hl : xs.length ≤ 64) (n : Nat) : runP G F (n + 3) n_sum_of [rowT xs] = some (fr xs.sum) := by
  obtain ⟨s2', h⟩ := psum_loop (G := G) L hN hN2 hB (some (rowT xs)) n xs 0 0 none hx Dg.zero (by omega)
  rw [show n + 3 = (n + 2) + 1 from rfl, runP1 hs _ _ rfl]
  rw [Rat.zero_add] at h
  simp only [pbind_nm] at h
  unfold n_ZERO at hZ
  simp only [rowT] at h ⊢
  simp [f_sum_of, hZ, h]
theorem dot_zip : ∀ {r o : List Rat}, dot r o = ((r.zip o).map fun p => p.1 * p.2).sum
  | [], _ => by simp [dot]
  | _ :: _, [] => by simp [dot]
  | x :: xs, y :: ys => by simp [dot, dot_zip (r := xs) (o := ys)]
theorem zip_map {α β γ δ : Type} {f : α → γ} {g : β → δ} : ∀ {xs : List α} {ys : List β}, (xs.map f).zip (ys.map g) = (xs.zip ys).map fun p => (f p.1, g p.2)
  | [], _ => by simp
  | _ :: _, [] => by simp
  | x :: xs, y :: ys => by simp [zip_map (xs := xs) (ys := ys)]
theorem psum_by (L : PFr F) (hs : F n_sum_of = some f_sum_of) (hb : F n_sum_by = some f_sum_by) (hZ : G n_ZERO = some (fr 0)) (hN : 0 < N) (hN2 : N ≤ 64) (hB : 12 * (2 * (d + e) + 1) + 2 ≤ 9000) {r o : List Rat} (hr : ∀ x ∈ r, Dg N d x) (ho : ∀ y ∈ o, Dg N e y) (hl : r.length ≤ 64) (n : Nat) : runP G F (n + 4) n_sum_by [rowT r, rowT o] = some (fr (dot r o)) := by
  have hlc : (pden G (runP G F (n + 3)) (.lc (.call n_times [.var 2, .var 3]) (.tp [(.nm 2), (.nm 3)]) (.zip (.mov 0) (.mov 1)) [] [2, 3])).v [some (rowT r), some (rowT o), none, none] = some (rowT ((r.zip o).map fun p => p.1 * p.2)) := by
    rw [pv_lc_all (l := r.zip o) (fun p => T.tup [fr p.1, fr p.2]) (fun p => fr (p.1 * p.2)) (by simp [rowT, zip_map]) (fun a ha => by
      have t1 := ptimes L hN hN2 (G := G) (hr _ (List.of_mem_zip ha).1) (ho _ (List.of_mem_zip ha).2) (by omega) (n + 1)
      simp [t1]) (by simp; omega)]
    simp [rowT]
  have hsum := psum (G := G) L hs hZ hN hN2 (d := d + e) (by omega) (xs := (r.zip o).map fun p => p.1 * p.2) (fun x m => by
    obtain ⟨p, m', rfl⟩ := List.mem_map.mp m
    exact (hr _ (List.of_mem_zip m').1).mul (ho _ (List.of_mem_zip m').2)) (by simp; omega) n
  rw [show n + 4 = (n + 3) + 1 from rfl, runP1 hb _ _ rfl, dot_zip]
  simp [f_sum_by, -pv_lc, hlc, hsum]
def col (m : List (List Rat)) (j : Nat) : List Rat := m.map (·.getD j 0)
/-- a row by a table -/
def width : List (List Rat) → Nat
  | [] => 0
  | l :: _ => l.length
def rowBy (r : List Rat) (m : List (List Rat)) : List Rat := (List.range (width m)).map fun j => dot r (col m j)
/-- a table of lines so long -/
def Rect (w : Nat) (m : List (List Rat)) : Prop := m ≠ [] ∧ ∀ l ∈ m, l.length = w
theorem Rect.head {w m} (h : Rect w m) : width m = w := by
  cases m with
  | nil => exact absurd rfl h.1
  | cons a m => exact h.2 a (by simp)
theorem Rect.first {w m} (h : Rect w m) : ∃ l r, m = l :: r ∧ l.length = w := by
  cases m with
  | nil => exact absurd rfl h.1
  | cons a m => exact ⟨a, m, rfl, h.2 a (by simp)⟩
theorem col_mem {w m j} (h : Rect w m) (hj : j < w) (hm : ∀ l ∈ m, ∀ x ∈ l, Dg N e x) : ∀ y ∈ col m j, Dg N e y := by
  intro y hy
  obtain ⟨l, hl, rfl⟩ := List.mem_map.mp hy
  have := h.2 l hl
  have hj' : j < l.length := by omega
  rw [List.getD_eq_getElem?_getD, List.getElem?_eq_getElem hj']
  exact hm l hl _ (List.getElem_mem _)
theorem rowBy_dg (hN : 0 < N) {r : List Rat} {m w} (h : Rect w m) (hr : ∀ x ∈ r, Dg N d x) (hm : ∀ l ∈ m, ∀ x ∈ l, Dg N e x) (hl : r.length ≤ 64) : ∀ x ∈ rowBy r m, Dg N (d + e + 1) x := by
  intro x hx
  obtain ⟨j, hj, rfl⟩ := List.mem_map.mp hx
  have := List.mem_range.mp hj
  rw [h.head] at this
  exact dot_dg hN hr (col_mem h this hm) hl
theorem rowBy_len {r : List Rat} {m w} (h : Rect w m) : (rowBy r m).length = w := by simp [rowBy, h.head]
theorem row_at {l : List Rat} {j : Nat} (h : j < l.length) : L2.atI (l.map fr) (j : Int) = some (fr (l.getD j 0)) := by
  rw [atI_ofNat]; simp [h]
theorem lby (L : LFr F) (hs : F n__law_sum = some f__law_sum) (hb : F n__law_by = some f__law_by) (hN : 0 < N) (hN2 : N ≤ 64) (hB : 12 * (2 * (d + e) + 1) + 2 ≤ 600) {r : List Rat} {m : List (List Rat)} {w : Nat} (h : Rect w m) (hw : w ≤ 1000) (hr : ∀ x ∈ r, Dg N d x) (hm : ∀ l ∈ m, ∀ x ∈ l, Dg N e x) (hl : r.length ≤ m.length) (hl2 : r.length ≤ 64) (hl3 : m.length ≤ 1000) (n : Nat) : runP G F (n + 5) n__law_by [rowT r, tabT m] = some (rowT (rowBy r m)) := by
  obtain ⟨l0, r0, e0, hl0⟩ := h.first
  have hrg := rng_n (n := w) (by omega)
  have inner : ∀ j, j < w → ∀ s3, (pden G (runP G F (n + 4)) (.lc (.ix (.var 3) (.var 2)) (.nm 3) (.var 1) [] [3])).v [some (rowT r), some (tabT m), some (.int (j : Nat)), s3] = some (rowT (col m j)) := by
    intro j hj s3
    rw [pv_lc_all (l := m) rowT (fun l => fr (l.getD j 0)) (by simp [tabT]) (fun a ha => by
      have := row_at (l := a) (j := j) (by rw [h.2 a ha]; exact hj)
      simp [rowT, -atI_ofNat, this]) (by omega)]
    simp [rowT, col]
  have outer : (pden G (runP G F (n + 4)) (.lc (.call n__law_sum [.var 0, .lc (.ix (.var 3) (.var 2)) (.nm 3) (.var 1) [] [3]]) (.nm 2) (.rng [.blt .len [.ix (.var 1) (.int 0)]]) [] [2])).v [some (rowT r), some (tabT m), none, none] = some (rowT (rowBy r m)) := by
    rw [pv_lc_all (l := List.range w) (fun j => T.int (j : Nat)) (fun j => fr (dot r (col m j))) (by
      subst e0
      simp [tabT, rowT, hl0, hrg]) (fun j hj => by
      have hj' := List.mem_range.mp hj
      have := lsum (G := G) L hs hN hN2 hB hr (col_mem h hj' hm) (by simpa [col] using hl) hl2 n
      simp [-pv_lc, inner j hj', this]) (by simp; omega)]
    simp [rowT, rowBy, h.head]
  rw [show n + 5 = (n + 4) + 1 from rfl, runP1 hb _ _ rfl]
  simp [f__law_by, -pv_lc, outer]
theorem pcolumn (hc : F n_column = some f_column) {m : List (List Rat)} {w j : Nat} (h : Rect w m) (hj : j < w) (hl3 : m.length ≤ 1000) (n : Nat) : runP G F (n + 1) n_column [tabT m, .int (j : Nat)] = some (rowT (col m j)) := by
  have inner : (pden G (runP G F n) (.lc (.ix (.var 2) (.var 1)) (.nm 2) (.mov 0) [] [2])).v [some (tabT m), some (.int (j : Nat)), none] = some (rowT (col m j)) := by
    rw [pv_lc_all (l := m) rowT (fun l => fr (l.getD j 0)) (by simp [tabT]) (fun a ha => by
      have := row_at (l := a) (j := j) (by rw [h.2 a ha]; exact hj)
      simp [rowT, -atI_ofNat, this]) (by omega)]
    simp [rowT, col]
  rw [runP1 hc _ _ rfl]
  simp [f_column, -pv_lc, inner]
/-- the program's rows and tables -/
structure PRow (G : List Nat → Option T) (F : List Nat → Option Fn) : Prop extends PFr F where
  zr : G n_ZERO = some (fr 0)
  so : F n_sum_of = some f_sum_of
  sb : F n_sum_by = some f_sum_by
  cl : F n_column = some f_column
  rb : F n_row_by = some f_row_by
theorem pby (L : PRow G F) (hN : 0 < N) (hN2 : N ≤ 64) (hB : 12 * (2 * (d + e) + 1) + 2 ≤ 9000) {r : List Rat} {m : List (List Rat)} {w : Nat} (h : Rect w m) (hw : w ≤ 1000) (hr : ∀ x ∈ r, Dg N d x) (hm : ∀ l ∈ m, ∀ x ∈ l, Dg N e x) (hl2 : r.length ≤ 64) (hl3 : m.length ≤ 1000) (n : Nat) : runP G F (n + 5) n_row_by [rowT r, tabT m] = some (rowT (rowBy r m)) := by
  obtain ⟨l0, r0, e0, hl0⟩ := h.first
  have hrg := rng_n (n := w) (by omega)
  have outer : (pden G (runP G F (n + 4)) (.lc (.call n_sum_by [.var 0, .call n_column [.var 1, .var 2]]) (.nm 2) (.rng [.blt .len [.ix (.var 1) (.int 0)]]) [] [2])).v [some (rowT r), some (tabT m), none] = some (rowT (rowBy r m)) := by
    rw [pv_lc_all (l := List.range w) (fun j => T.int (j : Nat)) (fun j => fr (dot r (col m j))) (by
      subst e0
      simp [tabT, rowT, hl0, hrg]) (fun j hj => by
      have hj' := List.mem_range.mp hj
      have h1 := psum_by (G := G) L.toPFr L.so L.sb L.zr hN hN2 hB hr (col_mem h hj' hm) hl2 n
      have h2 := pcolumn (G := G) L.cl h hj' hl3 (n + 3)
      simp [h1, h2]) (by simp; omega)]
    simp [rowT, rowBy, h.head]
  rw [show n + 5 = (n + 4) + 1 from rfl, runP1 L.rb _ _ rfl]
  simp [f_row_by, -pv_lc, outer]
end
end Ev
namespace Ev
open PySem (sizeLine)
section
variable {α : Type} {l : List α}
@[simp] theorem atI_3 : L2.atI l 3 = l[3]? := atI_nn (by decide)
@[simp] theorem atI_4 : L2.atI l 4 = l[4]? := atI_nn (by decide)
@[simp] theorem atI_5 : L2.atI l 5 = l[5]? := atI_nn (by decide)
@[simp] theorem atI_6 : L2.atI l 6 = l[6]? := atI_nn (by decide)
@[simp] theorem atI_7 : L2.atI l 7 = l[7]? := atI_nn (by decide)
@[simp] theorem atI_8 : L2.atI l 8 = l[8]? := atI_nn (by decide)
@[simp] theorem atI_9 : L2.atI l 9 = l[9]? := atI_nn (by decide)
end
theorem fr_int (i : Int) : fr (i : Rat) = .tup [.int i, .int 1] := by
  unfold fr
  rw [Rat.num_intCast, Rat.den_intCast]; rfl
theorem fr_one : fr 1 = .tup [.int 1, .int 1] := rfl
structure Mach where
  letters : List Nat
  start : List Rat
  steps : List (List (List Rat))
  fin : List Rat
def machT (M : Mach) : T := .tup [.str M.letters, rowT M.start, .lst (M.steps.map tabT), rowT M.fin]
structure Mc (N d n : Nat) (M : Mach) : Prop where
  n1 : 1 ≤ n
  n2 : n ≤ 64
  ls : M.start.length = n
  lf : M.fin.length = n
  lt : M.steps.length = M.letters.length
  tb : ∀ t ∈ M.steps, t.length = n ∧ ∀ l ∈ t, l.length = n
  nd : M.letters.Nodup
  ll : M.letters.length ≤ 64
  ds : ∀ x ∈ M.start, Dg N d x
  df : ∀ x ∈ M.fin, Dg N d x
  dt : ∀ t ∈ M.steps, ∀ l ∈ t, ∀ x ∈ l, Dg N d x
/-- a letter's table -/
def Mach.tab (M : Mach) (a : Nat) : List (List Rat) := M.steps.getD (M.letters.findIdx (· == a)) []
def reachF (M : Mach) (r : List Rat) (w : List Nat) : List Rat := w.foldl (fun r a => rowBy r (M.tab a)) r
def worthM (M : Mach) (w : List Nat) : Rat := dot (reachF M M.start w) M.fin
section
variable {G : List Nat → Option T} {F : List Nat → Option Fn} {N d n : Nat} {M : Mach}
theorem Mc.tab_mem (K : Mc N d n M) {a : Nat} (ha : a ∈ M.letters) : M.tab a ∈ M.steps := by
  have h1 : M.letters.findIdx (· == a) < M.letters.length := List.findIdx_lt_length_of_exists ⟨a, ha, by simp⟩
  have h2 : M.letters.findIdx (· == a) < M.steps.length := by rw [K.lt]; exact h1
  unfold Mach.tab
  rw [List.getD_eq_getElem?_getD, List.getElem?_eq_getElem h2]
  exact List.getElem_mem _
theorem Mc.rect (K : Mc N d n M) {a : Nat} (ha : a ∈ M.letters) : Rect n (M.tab a) := by
  have h := K.tb _ (K.tab_mem ha)
  refine ⟨fun e => ?_, h.2⟩
  rw [e] at h
  have := K.n1
  simp at h
  omega
theorem Mc.ix (K : Mc N d n M) {a : Nat} (ha : a ∈ M.letters) : ∃ j : Nat, M.letters.findIdx? (· == a) = some j ∧ L2.atI (M.steps.map tabT) (j : Int) = some (tabT (M.tab a)) := by
  have h1 : M.letters.findIdx (· == a) < M.letters.length := List.findIdx_lt_length_of_exists ⟨a, ha, by simp⟩
  have h2 : M.letters.findIdx (· == a) < M.steps.length := by rw [K.lt]; exact h1
  refine ⟨M.letters.findIdx (· == a), ?_, ?_⟩
  · rw [List.findIdx?_eq_some_iff_findIdx_eq]; exact ⟨h1, rfl⟩
  · rw [atI_ofNat, List.getElem?_map, List.getElem?_eq_getElem h2]
    unfold Mach.tab
    rw [List.getD_eq_getElem?_getD, List.getElem?_eq_getElem h2]
    rfl
/-- the laws' rows, reached rows, worths -/
structure LMach (F : List Nat → Option Fn) : Prop extends LFr F where
  su : F n__law_sum = some f__law_sum
  by_ : F n__law_by = some f__law_by
  re : F n__law_reach = some f__law_reach
  wo : F n__law_worth = some f__law_worth
structure PMach (G : List Nat → Option T) (F : List Nat → Option Fn) : Prop extends PRow G F where
  st : F n_stepped = some f_stepped
  re : F n_reach = some f_reach
  wo : F n_worth = some f_worth
theorem reach_dg (hN : 0 < N) (K : Mc N d n M) : ∀ (w : List Nat) (r : List Rat) (k : Nat), (∀ a ∈ w, a ∈ M.letters) → (∀ x ∈ r, Dg N k x) → r.length = n → (∀ x ∈ reachF M r w, Dg N (k + w.length * (d + 1)) x) ∧ (reachF M r w).length = n
  | [], r, k, _, h, hl => by simpa [reachF] using ⟨h, hl⟩
  | a :: w, r, k, hw, h, hl => by
    have R := K.rect (hw a (by simp))
    have ih := reach_dg hN K w (rowBy r (M.tab a)) (k + d + 1) (fun b m => hw b (by simp [m])) (rowBy_dg hN R h (K.dt _ (K.tab_mem (hw a (by simp)))) (by have := K.n2; omega)) (rowBy_len R)
    refine ⟨fun x m => ?_, ih.2⟩
    have := ih.1 x m
    rw [List.length_cons, Nat.succ_mul]
    rw [show k + (w.length * (d + 1) + (d + 1)) = k + d + 1 + w.length * (d + 1) by omega]
    exact this
theorem lreach_loop (L : LMach F) (hN : 0 < N) (hN2 : N ≤ 64) (K : Mc N d n M) (s1 : Option T) (q : Nat) : ∀ (w : List Nat) (r : List Rat) (k : Nat) (s3 : Option T), (∀ a ∈ w, a ∈ M.letters) → (∀ x ∈ r, Dg N k x) → r.length = n → 12 * (2 * (k + w.length * (d + 1) + d) + 1) + 2 ≤ 600 → ∃ s3',
    forP (fun x p => pbind (.nm 3) x p) (pSs G (runP G F (q + 5)) [.set 2 (.call n__law_by [.mov 2, .ix (.ix (.var 0) (.int 2)) (.meth .sindex (.ix (.var 0) (.int 0)) [.mov 3])])]) (w.map fun c => T.str [c]) [some (machT M), s1, some (rowT r), s3] = some (.nx [some (machT M), s1, some (rowT (reachF M r w)), s3'])
  | [], r, k, s3, _, _, _, _ => ⟨s3, by simp [reachF]⟩
  | a :: w, r, k, s3, hw, h, hl, hB => by
    have ha := hw a (by simp)
    have R := K.rect ha
    have D := K.dt _ (K.tab_mem ha)
    have n2 := K.n2
    rw [List.length_cons, Nat.succ_mul w.length] at hB
    have hby := lby (G := G) L.toLFr L.su L.by_ hN hN2 (d := k) (e := d) (by omega) R (by omega) h D (by rw [hl, (K.tb _ (K.tab_mem ha)).1]; omega) (by omega) (by rw [(K.tb _ (K.tab_mem ha)).1]; omega) q
    obtain ⟨s3', ih⟩ := lreach_loop L hN hN2 K s1 q w (rowBy r (M.tab a)) (k + d + 1) (some (.str [a])) (fun b m => hw b (by simp [m])) (rowBy_dg hN R h D (by omega)) (rowBy_len R) (by omega)
    refine ⟨s3', ?_⟩
    obtain ⟨j, j1, j2⟩ := K.ix ha
    have : reachF M r (a :: w) = reachF M (rowBy r (M.tab a)) w := rfl
    rw [this, ← ih, List.map_cons, forP_cons]
    simp [machT, methV, -atI_ofNat, j1, j2, hby]
theorem lreach (L : LMach F) (hN : 0 < N) (hN2 : N ≤ 64) (K : Mc N d n M) {w : List Nat} (hw : ∀ a ∈ w, a ∈ M.letters) (hB : 12 * (2 * (d + w.length * (d + 1) + d) + 1) + 2 ≤ 600) (q : Nat) : runP G F (q + 6) n__law_reach [machT M, .str w] = some (rowT (reachF M M.start w)) := by
  obtain ⟨s3', h⟩ := lreach_loop (G := G) L hN hN2 K (some (.str w)) q w M.start d none hw K.ds K.ls hB
  rw [show q + 6 = (q + 5) + 1 from rfl, runP1 L.re _ _ rfl]
  simp only [pbind_nm] at h
  simp only [machT, rowT] at h ⊢
  simp [f__law_reach, h]
theorem lworth (L : LMach F) (hN : 0 < N) (hN2 : N ≤ 64) (K : Mc N d n M) {w : List Nat} (hw : ∀ a ∈ w, a ∈ M.letters) (hB : 12 * (2 * (d + w.length * (d + 1) + d) + 1) + 2 ≤ 600) (q : Nat) : runP G F (q + 7) n__law_worth [machT M, .str w] = some (fr (worthM M w)) := by
  have h1 := lreach (G := G) L hN hN2 K hw hB q
  obtain ⟨g1, g2⟩ := reach_dg hN K w M.start d hw K.ds K.ls
  have n2 := K.n2
  have h2 := lsum (G := G) L.toLFr L.su hN hN2 (by omega) g1 K.df (by rw [g2, K.lf]; omega) (by omega) (q + 2)
  rw [show q + 7 = (q + 6) + 1 from rfl, runP1 L.wo _ _ rfl]
  simp [f__law_worth, h1]
  simp only [machT] at h1 ⊢
  simp [h2, worthM]
theorem worth_dg (hN : 0 < N) (K : Mc N d n M) {w : List Nat} (hw : ∀ a ∈ w, a ∈ M.letters) : Dg N (d + w.length * (d + 1) + d + 1) (worthM M w) := by
  obtain ⟨g1, g2⟩ := reach_dg hN K w M.start d hw K.ds K.ls
  exact dot_dg hN g1 K.df (by have := K.n2; omega)
theorem pstepped (L : PMach G F) (hN : 0 < N) (hN2 : N ≤ 64) (K : Mc N d n M) {a k : Nat} (ha : a ∈ M.letters) {r : List Rat} (h : ∀ x ∈ r, Dg N k x) (hl : r.length = n) (hB : 12 * (2 * (k + d) + 1) + 2 ≤ 9000) (q : Nat) : runP G F (q + 6) n_stepped [machT M, rowT r, .str [a]] = some (rowT (rowBy r (M.tab a))) := by
  have n2 := K.n2
  have hby := pby (G := G) L.toPRow hN hN2 (d := k) (e := d) hB (K.rect ha) (by omega) h (K.dt _ (K.tab_mem ha)) (by omega) (by rw [(K.tb _ (K.tab_mem ha)).1]; omega) q
  obtain ⟨j, j1, j2⟩ := K.ix ha
  rw [show q + 6 = (q + 5) + 1 from rfl, runP1 L.st _ _ rfl]
  simp [f_stepped, machT, methV, -atI_ofNat, j1, j2, hby]
theorem preach_loop (L : PMach G F) (hN : 0 < N) (hN2 : N ≤ 64) (K : Mc N d n M) (s1 : Option T) (q : Nat) : ∀ (w : List Nat) (r : List Rat) (k : Nat) (s3 : Option T), (∀ a ∈ w, a ∈ M.letters) → (∀ x ∈ r, Dg N k x) → r.length = n → 12 * (2 * (k + w.length * (d + 1) + d) + 1) + 2 ≤ 9000 → ∃ s3',
    forP (fun x p => pbind (.nm 3) x p) (pSs G (runP G F (q + 6)) [.set 2 (.call n_stepped [.var 0, .mov 2, .mov 3])]) (w.map fun c => T.str [c]) [some (machT M), s1, some (rowT r), s3] = some (.nx [some (machT M), s1, some (rowT (reachF M r w)), s3'])
  | [], r, k, s3, _, _, _, _ => ⟨s3, by simp [reachF]⟩
  | a :: w, r, k, s3, hw, h, hl, hB => by
    have ha := hw a (by simp)
    have R := K.rect ha
    have D := K.dt _ (K.tab_mem ha)
    have n2 := K.n2
    rw [List.length_cons, Nat.succ_mul w.length] at hB
    have hst := pstepped (G := G) L hN hN2 K ha h hl (by omega) q
    obtain ⟨s3', ih⟩ := preach_loop L hN hN2 K s1 q w (rowBy r (M.tab a)) (k + d + 1) (some (.str [a])) (fun b m => hw b (by simp [m])) (rowBy_dg hN R h D (by omega)) (rowBy_len R) (by omega)
    refine ⟨s3', ?_⟩
    have : reachF M r (a :: w) = reachF M (rowBy r (M.tab a)) w := rfl
    rw [this, ← ih, List.map_cons, forP_cons]
    simp [hst]
theorem preach (L : PMach G F) (hN : 0 < N) (hN2 : N ≤ 64) (K : Mc N d n M) {w : List Nat} (hw : ∀ a ∈ w, a ∈ M.letters) (hB : 12 * (2 * (d + w.length * (d + 1) + d) + 1) + 2 ≤ 9000) (q : Nat) : runP G F (q + 7) n_reach [machT M, .str w] = some (rowT (reachF M M.start w)) := by
  obtain ⟨s3', h⟩ := preach_loop (G := G) L hN hN2 K (some (.str w)) q w M.start d none hw K.ds K.ls hB
  rw [show q + 7 = (q + 6) + 1 from rfl, runP1 L.re _ _ rfl]
  simp only [pbind_nm] at h
  simp only [machT, rowT] at h ⊢
  simp [f_reach, h]
theorem pworth (L : PMach G F) (hN : 0 < N) (hN2 : N ≤ 64) (K : Mc N d n M) {w : List Nat} (hw : ∀ a ∈ w, a ∈ M.letters) (hB : 12 * (2 * (d + w.length * (d + 1) + d) + 1) + 2 ≤ 9000) (q : Nat) : runP G F (q + 8) n_worth [machT M, .str w] = some (fr (worthM M w)) := by
  have h1 := preach (G := G) L hN hN2 K hw hB q
  obtain ⟨g1, g2⟩ := reach_dg hN K w M.start d hw K.ds K.ls
  have n2 := K.n2
  have h2 := psum_by (G := G) L.toPFr L.so L.sb L.zr hN hN2 (by omega) g1 K.df (by omega) (q + 3)
  rw [show q + 8 = (q + 7) + 1 from rfl, runP1 L.wo _ _ rfl]
  simp [f_worth, h1]
  simp only [machT] at h1 ⊢
  simp [h2, worthM]
/-- the words one letter longer -/
def longer (ls : List Nat) (ws : List (List Nat)) : List (List Nat) := ws.flatMap fun w => ls.map fun c => w ++ [c]
def layer (ls : List Nat) : Nat → List (List Nat)
  | 0 => [[]]
  | k + 1 => longer ls (layer ls k)
def wordsUp (ls : List Nat) : Nat → List (List Nat)
  | 0 => [[]]
  | k + 1 => wordsUp ls k ++ layer ls (k + 1)
def wordsT (ws : List (List Nat)) : T := .lst (ws.map T.str)
theorem layer_mem {ls : List Nat} : ∀ {k : Nat} {w : List Nat}, w ∈ layer ls k ↔ w.length = k ∧ ∀ a ∈ w, a ∈ ls
  | 0, w => by
    simp only [layer, List.mem_singleton]
    constructor
    · rintro rfl; simp
    · rintro ⟨h, _⟩; exact List.eq_nil_of_length_eq_zero h
  | k + 1, w => by
    simp only [layer, longer, List.mem_flatMap, List.mem_map]
    constructor
    · rintro ⟨v, hv, c, hc, rfl⟩
      obtain ⟨h1, h2⟩ := layer_mem.mp hv
      refine ⟨by simp [h1], fun a m => ?_⟩
      rcases List.mem_append.mp m with m | m
      · exact h2 a m
      · simp at m; subst m; exact hc
    · rintro ⟨h1, h2⟩
      have hne : w ≠ [] := fun e => by subst e; simp at h1
      refine ⟨w.dropLast, layer_mem.mpr ⟨by simp [h1], fun a m => h2 a (List.dropLast_subset _ m)⟩, w.getLast hne, h2 _ (List.getLast_mem hne), List.dropLast_concat_getLast hne⟩
theorem wordsUp_mem {ls : List Nat} : ∀ {k : Nat} {w : List Nat}, w ∈ wordsUp ls k ↔ w.length ≤ k ∧ ∀ a ∈ w, a ∈ ls
  | 0, w => by
    simp only [wordsUp, List.mem_singleton]
    constructor
    · rintro rfl; simp
    · rintro ⟨h, _⟩; exact List.eq_nil_of_length_eq_zero (by omega)
  | k + 1, w => by
    simp only [wordsUp, List.mem_append, wordsUp_mem, layer_mem]
    constructor
    · rintro (⟨h1, h2⟩ | ⟨h1, h2⟩)
      · exact ⟨by omega, h2⟩
      · exact ⟨by omega, h2⟩
    · rintro ⟨h1, h2⟩
      by_cases h : w.length ≤ k
      · exact .inl ⟨h, h2⟩
      · exact .inr ⟨by omega, h2⟩
theorem longer_len {ls : List Nat} {ws : List (List Nat)} : (longer ls ws).length = ws.length * ls.length := by
  unfold longer
  induction ws with
  | nil => simp
  | cons w ws ih => simp [ih, Nat.succ_mul, Nat.add_comm]
theorem more_loop {C : List Nat → List T → Option T} {ls : List Nat} (hls : ls.length ≤ 1000) (s1 s2 s3 s4 s7 : Option T) : ∀ (ws acc : List (List Nat)) (m : Nat) (s6 : Option T), (∀ w ∈ ws, w.length ≤ 1000) → acc.length + ws.length * ls.length ≤ 100000 → ∃ s6',
    forP (fun x p => pbind (.nm 6) x p) (pSs G C [.set 5 (.bin .add (.mov 5) (.lc (.bin .add (.var 6) (.var 7)) (.nm 7) (.var 0) [] [7]))]) (ws.map T.str) [some (.str ls), s1, s2, s3, s4, some (wordsT acc), s6, s7] = some (.nx [some (.str ls), s1, s2, s3, s4, some (wordsT (acc ++ longer ls ws)), s6', s7])
  | [], acc, m, s6, _, _ => ⟨s6, by simp [longer]⟩
  | w :: ws, acc, m, s6, hw, hl => by
    rw [List.length_cons, Nat.succ_mul] at hl
    obtain ⟨s6', ih⟩ := more_loop (C := C) hls s1 s2 s3 s4 s7 ws (acc ++ ls.map fun c => w ++ [c]) m (some (.str w)) (fun v m => hw v (by simp [m])) (by simp; omega)
    refine ⟨s6', ?_⟩
    have hwl := hw w (by simp)
    have hz : w.length + 1 ≤ sizeLine := le_size (by omega)
    have hlc : (pden G C (.lc (.bin .add (.var 6) (.var 7)) (.nm 7) (.var 0) [] [7])).v [some (.str ls), s1, s2, s3, s4, some (wordsT acc), some (.str w), s7] = some (.lst ((ls.map fun c => w ++ [c]).map T.str)) := by
      rw [pv_lc_all (l := ls) (fun c => T.str [c]) (fun c => T.str (w ++ [c])) (by simp) (fun a _ => by simp [hz]) (by omega)]
      simp
    have hz2 : acc.length + ls.length ≤ sizeLine := le_size (by omega)
    have e : acc ++ longer ls (w :: ws) = acc ++ (ls.map fun c => w ++ [c]) ++ longer ls ws := by simp [longer]
    rw [e, ← ih, List.map_cons, forP_cons]
    simp only [wordsT] at hlc ⊢
    simp [-pv_lc, hlc, hz2]
def b_words : List S := [.set 5 (.lst []), .for_ (.nm 6) (.mov 3) [.set 5 (.bin .add (.mov 5) (.lc (.bin .add (.var 6) (.var 7)) (.nm 7) (.var 0) [] [7]))], .set 3 (.mov 5), .set 2 (.bin .add (.mov 2) (.var 3))]
theorem layer_len {ls : List Nat} : ∀ {k : Nat}, (layer ls k).length = ls.length ^ k
  | 0 => rfl
  | k + 1 => by rw [layer, longer_len, layer_len, Nat.pow_succ]
theorem wordsUp_len {ls : List Nat} {B : Nat} (h : 1 ≤ ls.length) : ∀ {k : Nat}, (wordsUp ls k).length ≤ (k + 1) * ls.length ^ k
  | 0 => by simp [wordsUp]
  | k + 1 => by
    have := wordsUp_len (B := B) h (k := k)
    rw [wordsUp, List.length_append, layer_len, Nat.succ_mul (k + 1)]
    have h2 : (k + 1) * ls.length ^ k ≤ (k + 1) * ls.length ^ (k + 1) := Nat.mul_le_mul_left _ (Nat.pow_le_pow_right h (by omega))
    omega
theorem words_loop {C : List Nat → List T → Option T} {ls : List Nat} (h1 : 1 ≤ ls.length) (hls : ls.length ≤ 1000) (s1 s7 : Option T) {K : Nat} (hK : K ≤ 100) (hB : (K + 2) * ls.length ^ (K + 1) ≤ 100000) : ∀ (m k : Nat) (s4 s5 s6 : Option T), k + m ≤ K → ∃ s4' s5' s6',
    forP (fun x p => pbind (.nm 4) x p) (pSs G C b_words) ((List.range' k m).map fun i => T.int (i : Nat)) [some (.str ls), s1, some (wordsT (wordsUp ls k)), some (wordsT (layer ls k)), s4, s5, s6, s7] = some (.nx [some (.str ls), s1, some (wordsT (wordsUp ls (k + m))), some (wordsT (layer ls (k + m))), s4', s5', s6', s7])
  | 0, k, s4, s5, s6, _ => ⟨s4, s5, s6, by simp⟩
  | m + 1, k, s4, s5, s6, hm => by
    have hp : ∀ j, j ≤ K + 1 → (j + 1) * ls.length ^ j ≤ 100000 := fun j hj => by
      refine Nat.le_trans ?_ hB
      exact Nat.mul_le_mul (by omega) (Nat.pow_le_pow_right h1 (by omega))
    have l1 : (layer ls k).length * ls.length ≤ 100000 := by
      rw [layer_len, ← Nat.pow_succ]
      have := hp (k + 1) (by omega)
      rw [Nat.succ_mul] at this
      exact Nat.le_trans (by omega : ls.length ^ (k + 1) ≤ (k + 1) * ls.length ^ (k + 1) + ls.length ^ (k + 1)) this
    obtain ⟨s6', hmore⟩ := more_loop (G := G) (C := C) hls s1 (some (wordsT (wordsUp ls k))) (some (wordsT (layer ls k))) (some (.int k)) s7 (layer ls k) [] 0 s6 (fun w hw => by rw [(layer_mem.mp hw).1]; omega) (by simpa using l1)
    obtain ⟨a, b, c, ih⟩ := words_loop (C := C) h1 hls s1 s7 hK hB m (k + 1) (some (.int k)) (some (wordsT (layer ls (k + 1)))) s6' (by omega)
    refine ⟨a, b, c, ?_⟩
    rw [show k + (m + 1) = k + 1 + m by omega, ← ih, List.range'_succ, List.map_cons, forP_cons]
    have hz : (wordsUp ls k).length + (layer ls (k + 1)).length ≤ sizeLine := by
      have := wordsUp_len (B := 0) h1 (k := k + 1)
      have h2 := hp (k + 1) (by omega)
      rw [wordsUp, List.length_append] at this
      exact le_size (by omega)
    have e1 : longer ls (layer ls k) = layer ls (k + 1) := rfl
    simp only [pbind_nm, wordsT, List.nil_append, List.map_nil, e1] at hmore
    simp [b_words, wordsT, hmore, hz, wordsUp]
theorem lwords (hf : F n__law_words = some f__law_words) {ls : List Nat} (h1 : 1 ≤ ls.length) (hls : ls.length ≤ 1000) {k : Nat} (hk : k ≤ 100) (hB : (k + 2) * ls.length ^ (k + 1) ≤ 100000) (q : Nat) : runP G F (q + 1) n__law_words [.str ls, .int (k : Nat)] = some (wordsT (wordsUp ls k)) := by
  obtain ⟨a, b, c, h⟩ := words_loop (G := G) (C := runP G F q) h1 hls (some (.int (k : Nat))) none hk hB k 0 none none none (by omega)
  have hr := rng_n (n := k) (by omega)
  have hrr : List.range k = List.range' 0 k := List.range_eq_range' ..
  rw [hrr] at hr
  rw [runP1 hf _ _ rfl]
  rw [Nat.zero_add] at h
  unfold b_words at h
  simp only [pbind_nm, wordsT, wordsUp, layer] at h
  simp at h
  simp [f__law_words, hr, h, wordsT]
end
end Ev
namespace Ev
open PySem (sizeLine)
mutual
theorem dat_eq : ∀ {d : Nat} {t : T}, Dat d t → eqT t t = true
  | _, _, .non => rfl
  | _, _, .bl => by simp [eqT]
  | _, _, .int => by simp [eqT]
  | _, _, .str => by simp [eqT]
  | _, _, .tup (xs := xs) _ h => dat_eqL xs h
  | _, _, .lst (xs := xs) _ h => dat_eqL xs h
theorem dat_eqL : ∀ {d : Nat} (xs : List T), (∀ x ∈ xs, Dat d x) → eqTL xs xs = true
  | _, [], _ => rfl
  | _, x :: xs, h => by
    show (eqT x x && eqTL xs xs) = true
    rw [dat_eq (h x (by simp)), dat_eqL xs (fun y m => h y (by simp [m]))]; rfl
end
theorem dat_dep : ∀ (d n : Nat) (t : T), Dat d t → d ≤ n → T.depLe n t = true
  | _, n, .non, _, _ => by cases n <;> rfl
  | _, n, .bl _, _, _ => by cases n <;> rfl
  | _, n, .int _, _, _ => by cases n <;> rfl
  | _, n, .str _, _, _ => by cases n <;> rfl
  | d + 1, n + 1, .tup xs, h, hn => by
    cases h with
    | tup _ h =>
      show depLeL n xs = true
      have : ∀ ys : List T, (∀ y ∈ ys, Dat d y) → depLeL n ys = true := by
        intro ys
        induction ys with
        | nil => intro _; cases n <;> rfl
        | cons y ys ih =>
          intro hy
          rw [depLeL, ih (fun z m => hy z (by simp [m])), dat_dep d n y (hy y (by simp)) (by omega)]; rfl
      exact this xs h
  | d + 1, n + 1, .lst xs, h, hn => by
    cases h with
    | lst _ h =>
      show depLeL n xs = true
      have : ∀ ys : List T, (∀ y ∈ ys, Dat d y) → depLeL n ys = true := by
        intro ys
        induction ys with
        | nil => intro _; cases n <;> rfl
        | cons y ys ih =>
          intro hy
          rw [depLeL, ih (fun z m => hy z (by simp [m])), dat_dep d n y (hy y (by simp)) (by omega)]; rfl
      exact this xs h
  | 0, _, .tup _, h, _ => by cases h
  | 0, _, .lst _, h, _ => by cases h
  | _ + 1, 0, .tup _, _, hn => by omega
  | _ + 1, 0, .lst _, _, hn => by omega
  | _, _, .dct _ _, h, _ => by cases h
  | _, _, .obj _ _ _, h, _ => by cases h
theorem dat_cmp_eq {d : Nat} {t : T} (h : Dat d t) (hd : d ≤ 64) : cmpV .eq t t = some true := by
  rw [cmp_eq (dat_dep d 64 t h hd) (dat_dep d 64 t h hd), dat_eq h]
theorem dat_cmp_ne {d : Nat} {t : T} (h : Dat d t) (hd : d ≤ 64) : cmpV .ne t t = some false := by
  rw [cmp_ne (dat_dep d 64 t h hd) (dat_dep d 64 t h hd), dat_eq h]; rfl
theorem dat_fr {q : Rat} {d : Nat} : Dat (d + 1) (fr q) := .tup (by simp) (fun x m => by simp at m; rcases m with rfl | rfl <;> constructor)
theorem dat_map {α : Type} {f : α → T} {l : List α} {d : Nat} (hl : l.length ≤ 100000) (h : ∀ a ∈ l, Dat d (f a)) : Dat (d + 1) (.lst (l.map f)) := .lst (by simpa using hl) (fun x m => by
  obtain ⟨a, m', rfl⟩ := List.mem_map.mp m
  exact h a m')
theorem dat_row {r : List Rat} {d : Nat} (h : r.length ≤ 100000) : Dat (d + 2) (rowT r) := dat_map h fun _ _ => dat_fr
theorem dat_tab {m : List (List Rat)} {d : Nat} (h : m.length ≤ 100000) (h2 : ∀ l ∈ m, l.length ≤ 100000) : Dat (d + 3) (tabT m) := dat_map h fun l m => dat_row (h2 l m)
theorem Mc.dat {N d n : Nat} {M : Mach} (K : Mc N d n M) {k : Nat} : Dat (k + 5) (machT M) := by
  have n2 := K.n2
  refine .tup (by simp) (fun x m => ?_)
  simp only [List.mem_cons, List.not_mem_nil, or_false] at m
  rcases m with rfl | rfl | rfl | rfl
  · constructor
  · exact dat_row (d := k + 2) (by rw [K.ls]; omega)
  · exact dat_map (by rw [K.lt]; have := K.ll; omega) (fun t m => dat_tab (d := k) (by rw [(K.tb t m).1]; omega) (fun l m' => by rw [(K.tb t m).2 l m']; omega))
  · exact dat_row (d := k + 2) (by rw [K.lf]; omega)
theorem cut_mid {α : Type} {xs : List α} {a b : Nat} (hb : b ≤ xs.length) : cutT xs (some (a : Int)) (some (b : Int)) = (xs.drop a).take (b - a) := by
  unfold cutT HT.sIx
  have h1 : ¬ ((a : Int) < 0) := by omega
  have h2 : ¬ ((b : Int) < 0) := by omega
  simp only [h1, h2, if_false, Int.toNat_natCast]
  rw [Nat.min_eq_left hb]
  by_cases h : a ≤ xs.length
  · rw [Nat.min_eq_left h]
  · rw [Nat.min_eq_right (by omega), List.drop_of_length_le (Nat.le_refl _), List.drop_of_length_le (by omega)]; simp
section
variable {G : List Nat → Option T} {F : List Nat → Option Fn} {N d : Nat}
theorem ltotal_loop (L : LFr F) (hN : 0 < N) (hN2 : N ≤ 64) (hB : 12 * (2 * d + 1) + 2 ≤ 600) (s0 : Option T) (n : Nat) : ∀ (xs : List Rat) (m : Nat) (acc : Rat) (s2 : Option T), (∀ x ∈ xs, Dg N d x) → DgM N d m acc → m + xs.length ≤ 64 → ∃ s2',
    forP (fun x p => pbind (.nm 2) x p) (pSs G (runP G F (n + 3)) [.set 1 (.call n__law_plus [.mov 1, .mov 2])]) (xs.map fr) [s0, some (fr acc), s2] = some (.nx [s0, some (fr (acc + xs.sum)), s2'])
  | [], m, acc, s2, _, _, _ => ⟨s2, by simp [Rat.add_zero]⟩
  | x :: xs, m, acc, s2, hx, ha, hm => by
    have hm' : m + (xs.length + 1) ≤ 64 := hm
    have t2 := lplus L hN hN2 (G := G) (ha.up hN (by omega)) (hx x (by simp)) (by omega) n
    obtain ⟨s2', ih⟩ := ltotal_loop L hN hN2 hB s0 n xs (m + 1) (acc + x) (some (fr x)) (fun y m => hx y (by simp [m])) (ha.add (hx x (by simp)).one) (by omega)
    refine ⟨s2', ?_⟩
    rw [show acc + (x :: xs).sum = acc + x + xs.sum by rw [List.sum_cons]; grind, ← ih, List.map_cons, forP_cons]
    simp [t2]
theorem ltotal (L : LFr F) (hs : F n__law_total = some f__law_total) (hN : 0 < N) (hN2 : N ≤ 64) (hB : 12 * (2 * d + 1) + 2 ≤ 600) {xs : List Rat} (hx : ∀ x ∈ xs, Dg N d x) (hl : xs.length ≤ 64) (n : Nat) : runP G F (n + 4) n__law_total [rowT xs] = some (fr xs.sum) := by
  obtain ⟨s2', h⟩ := ltotal_loop (G := G) L hN hN2 hB (some (rowT xs)) n xs 0 0 none hx Dg.zero (by omega)
  rw [show n + 4 = (n + 3) + 1 from rfl, runP1 hs _ _ rfl]
  rw [Rat.zero_add, fr_zero] at h
  simp only [pbind_nm] at h
  simp only [rowT] at h ⊢
  simp [f__law_total, h]
theorem sum_dgm {xs : List Rat} (hx : ∀ x ∈ xs, Dg N d x) : DgM N d xs.length xs.sum := by
  induction xs with
  | nil => exact Dg.zero
  | cons x xs ih =>
    rw [List.sum_cons, List.length_cons, Nat.add_comm]
    exact (hx x (by simp)).one.add (ih fun y m => hx y (by simp [m]))
theorem sum_dg (hN : 0 < N) {xs : List Rat} (hx : ∀ x ∈ xs, Dg N d x) (hl : xs.length ≤ 64) : Dg N (d + 1) xs.sum := (sum_dgm hx).up hN hl
def itemQ (x : Int) : Rat := if x % 5 < 2 then 0 else if x % 5 = 2 then ((x / 5 % 3 - 1 : Int) : Rat) else Rat.divInt (x / 5 % 9 - 4) (1 + x / 45 % 4)
theorem num_le {i b : Int} (hb : 0 < b) : (Rat.divInt i b).num.natAbs ≤ i.natAbs := by
  rw [divInt_pos hb, Rat.num_mkRat, if_neg (by omega)]
  rw [Int.natAbs_ediv_of_dvd (Int.ofNat_dvd_left.mpr (Nat.gcd_dvd_right _ _))]
  exact Nat.div_le_self _ _
theorem itemQ_ok (x : Int) : Dg 12 1 (itemQ x) ∧ (itemQ x).num.natAbs ≤ 64 := by
  have h3 := mod_rng (x / 5) (show (0 : Int) < 3 by decide)
  have h9 := mod_rng (x / 5) (show (0 : Int) < 9 by decide)
  have h4 := mod_rng (x / 45) (show (0 : Int) < 4 by decide)
  unfold itemQ
  split
  · exact ⟨Dg.mono (by decide) (Dg.zero.up (by decide) (by decide) : Dg 12 (0 + 1) 0) (by decide), by decide⟩
  · split
    · exact ⟨Dg.int (by omega), by rw [Rat.num_intCast]; omega⟩
    · refine ⟨Dg.frac (by omega) ?_ (by decide) (by omega), Nat.le_trans (num_le (by omega)) (by omega)⟩
      have : (1 + x / 45 % 4 = 1 ∨ 1 + x / 45 % 4 = 2) ∨ (1 + x / 45 % 4 = 3 ∨ 1 + x / 45 % 4 = 4) := by omega
      rcases this with (h | h) | (h | h) <;> rw [h] <;> decide
theorem litem (L : LFr F) (hf : F n__law_item = some f__law_item) (x : Int) (n : Nat) : runP G F (n + 3) n__law_item [.int x] = some (fr (itemQ x)) := by
  have h3 := mod_rng (x / 5) (show (0 : Int) < 3 by decide)
  have h9 := mod_rng (x / 5) (show (0 : Int) < 9 by decide)
  have h4 := mod_rng (x / 45) (show (0 : Int) < 4 by decide)
  have l5 : (5 : Nat).log2 < 9000 := by decide
  have l45 : (45 : Nat).log2 < 9000 := by decide
  rw [show n + 3 = (n + 2) + 1 from rfl, runP1 hf _ _ rfl]
  unfold itemQ
  by_cases h : x % 5 < 2
  · simp [f__law_item, h, fr_zero]
  · by_cases h2 : x % 5 = 2
    · rw [if_neg h, if_pos h2, fr_int]
      simp [f__law_item, h2, l5]
    · rw [if_neg h, if_neg h2]
      have e := L.mk_ (G := G) n (x / 5 % 9 - 4) (1 + x / 45 % 4) (by omega) (Nat.lt_of_le_of_lt (by omega : _ ≤ 4) (by decide +kernel))
      simp [f__law_item, h, h2, l5, l45, e]
end
end Ev
namespace Ev
open PySem (sizeLine)
/-- what the laws draw by -/
structure LDraw (F : List Nat → Option Fn) : Prop extends LMach F where
  ce : F n__law_cell = some f__law_cell
  nu : F n__law_numbers = some f__law_numbers
  it : F n__law_item = some f__law_item
  ma : F n__law_machine = some f__law_machine
section
variable {G : List Nat → Option T} {F : List Nat → Option Fn}
/-- a letter's table, out of the items -/
def stepTab (its : List Rat) (s k : Nat) : List (List Rat) := (List.range s).map fun i => (its.drop (2 * s + k * s * s + i * s)).take s
def b_steps : List S := [.set 11 (.bin .add (.bin .mul (.int 2) (.var 5)) (.bin .mul (.bin .mul (.mov 10) (.var 5)) (.var 5))), .app 9 [] (.lc (.sl (.var 6) [.bin .add (.var 11) (.bin .mul (.var 14) (.var 5))] [.bin .add (.bin .add (.var 11) (.bin .mul (.var 14) (.var 5))) (.var 5)]) (.nm 14) (.rng [.var 5]) [] [14])]
theorem steps_loop {C : List Nat → List T → Option T} {its : List Rat} {s K : Nat} (hs : s ≤ 64) (hK : K ≤ 64) (hl : 2 * s + K * s * s ≤ its.length) (s0 s1 s2 s3 s4 s7 s8 s12 s13 s14 : Option T) : ∀ (m k : Nat) (s10 s11 : Option T), k + m = K → ∃ s10' s11',
    forP (fun x p => pbind (.nm 10) x p) (pSs G C b_steps) ((List.range' k m).map fun i => T.int (i : Nat)) [s0, s1, s2, s3, s4, some (.int (s : Nat)), some (rowT its), s7, s8, some (.lst (((List.range k).map (stepTab its s)).map tabT)), s10, s11, s12, s13, s14] =
      some (.nx [s0, s1, s2, s3, s4, some (.int (s : Nat)), some (rowT its), s7, s8, some (.lst (((List.range K).map (stepTab its s)).map tabT)), s10', s11', s12, s13, s14])
  | 0, k, s10, s11, hm => ⟨s10, s11, by simp at hm; subst hm; simp⟩
  | m + 1, k, s10, s11, hm => by
    obtain ⟨a, b, ih⟩ := steps_loop (C := C) hs hK hl s0 s1 s2 s3 s4 s7 s8 s12 s13 s14 m (k + 1) (some (.int k)) (some (.int (2 * s + k * s * s : Nat))) (by omega)
    refine ⟨a, b, ?_⟩
    have sm : s < 18446744073709551616 := by omega
    have km : k < 18446744073709551616 := by omega
    have hrg := rng_n (n := s) (by omega)
    have hz : k < sizeLine := lt_size (by omega)
    have hin : ∀ i, i < s → 2 * s + k * s * s + i * s + s ≤ its.length := fun i hi => by
      have h1 : i * s + s ≤ s * s := by
        rw [← Nat.succ_mul]; exact Nat.mul_le_mul_right _ hi
      have h2 : k * s * s + s * s ≤ K * s * s := by
        rw [← Nat.add_mul, ← Nat.succ_mul]
        exact Nat.mul_le_mul_right _ (Nat.mul_le_mul_right _ (by omega))
      omega
    have hlc : (pden G C (.lc (.sl (.var 6) [.bin .add (.var 11) (.bin .mul (.var 14) (.var 5))] [.bin .add (.bin .add (.var 11) (.bin .mul (.var 14) (.var 5))) (.var 5)]) (.nm 14) (.rng [.var 5]) [] [14])).v [s0, s1, s2, s3, s4, some (.int (s : Nat)), some (rowT its), s7, s8, some (.lst (((List.range k).map (stepTab its s)).map tabT)), some (.int k), some (.int (2 * s + k * s * s : Nat)), s12, s13, s14] = some (tabT (stepTab its s k)) := by
      rw [pv_lc_all (l := List.range s) (fun i => T.int (i : Nat)) (fun i => rowT ((its.drop (2 * s + k * s * s + i * s)).take s)) (by simp [hrg]) (fun i hi => by
        have hi' := List.mem_range.mp hi
        have hc := cut_mid (xs := its.map fr) (a := 2 * s + k * s * s + i * s) (b := 2 * s + k * s * s + i * s + s) (by rw [List.length_map]; exact hin i hi')
        rw [show 2 * s + k * s * s + i * s + s - (2 * s + k * s * s + i * s) = s by omega, ← List.map_drop, ← List.map_take] at hc
        have e1 : (2 * (s : Int) + (k : Int) * s * s + (i : Int) * s) = ((2 * s + k * s * s + i * s : Nat) : Int) := by push_cast; rfl
        have e2 : (2 * (s : Int) + (k : Int) * s * s + (i : Int) * s + s) = ((2 * s + k * s * s + i * s + s : Nat) : Int) := by push_cast; rfl
        rw [← e1, ← e2] at hc
        simp [rowT, sm, hc, -List.map_drop, -List.map_take]) (by simp; omega)]
      simp [tabT, stepTab]
    have e3 : (2 * (s : Int) + (k : Int) * s * s) = ((2 * s + k * s * s : Nat) : Int) := by push_cast; rfl
    have e4 : (List.range (k + 1)).map (stepTab its s) = (List.range k).map (stepTab its s) ++ [stepTab its s k] := by simp [List.range_succ]
    have e5 : (((List.range (k + 1)).map (stepTab its s)).map tabT) = ((List.range k).map (stepTab its s)).map tabT ++ [tabT (stepTab its s k)] := by rw [e4]; simp
    rw [← ih, List.range'_succ, List.map_cons, forP_cons, e5]
    have hln : (((List.range k).map (stepTab its s)).map tabT).length = k := by simp
    generalize ((List.range k).map (stepTab its s)).map tabT = L0 at hlc hln ⊢
    rw [← e3] at hlc ⊢
    simp [b_steps, -pv_lc, sm, hlc, hln, hz]
theorem stepTab_ok {its : List Rat} {s K k : Nat} (hl : 2 * s + K * s * s ≤ its.length) (hk : k < K) : (stepTab its s k).length = s ∧ ∀ l ∈ stepTab its s k, l.length = s ∧ ∀ x ∈ l, x ∈ its := by
  refine ⟨by simp [stepTab], fun l hm => ?_⟩
  obtain ⟨i, hi, rfl⟩ := List.mem_map.mp hm
  have hi' := List.mem_range.mp hi
  have h1 : i * s + s ≤ s * s := by
    rw [← Nat.succ_mul]; exact Nat.mul_le_mul_right _ hi'
  have h2 : k * s * s + s * s ≤ K * s * s := by
    rw [← Nat.add_mul, ← Nat.succ_mul]
    exact Nat.mul_le_mul_right _ (Nat.mul_le_mul_right _ (by omega))
  exact ⟨by simp; omega, fun x hx => List.mem_of_mem_drop (List.mem_of_mem_take hx)⟩
theorem lmachine (L : LDraw F) (ns : List Int) (at' : Nat) {letters : List Nat} (nd : letters.Nodup) (hll : letters.length ≤ 8) {most : Nat} (h1 : 1 ≤ most) (h2 : most ≤ 8) (q : Nat) : ∃ (M : Mach) (n : Nat), Mc 12 1 n M ∧ M.letters = letters ∧ n ≤ most ∧ runP G F (q + 5) n__law_machine [.lst (ns.map T.int), .int at', .str letters, .int most] = some (machT M) := by
  have hc : 2 + most * (2 + letters.length * most) ≤ 10000 := by
    have a1 : letters.length * most ≤ 8 * 8 := Nat.mul_le_mul hll h2
    have a2 : most * (2 + letters.length * most) ≤ 8 * 66 := Nat.mul_le_mul h2 (by omega)
    omega
  obtain ⟨ds, hl, hd, e1⟩ := pun_numbers (G := G) (F := F) (f := n__law_numbers) L.nu (L := 5040) (by decide) (by decide) (ns.getD at' 0) hc (q + 3)
  have ec := pun_cell (G := G) (F := F) (f := n__law_cell) L.ce ns at' (q + 3)
  generalize ns.getD at' 0 = cell at e1 ec
  have g0 : L2.atI (ds.map T.int) 0 = some (.int (ds.getD 0 0)) := ints_atI (k := 0) (by omega)
  have g1 : L2.atI (ds.map T.int) 1 = some (.int (ds.getD 1 0)) := ints_atI (k := 1) (by omega)
  have z0 := (draw_at hl hd (k := 0) (by omega)).1
  generalize hd0 : ds.getD 0 0 = d0 at g0 z0
  generalize hd1 : ds.getD 1 0 = d1 at g1
  have mm : most < 18446744073709551616 := by omega
  have lm : letters.length < 18446744073709551616 := by omega
  have mp : (0 : Int) < most := by omega
  have hsz := mod_rng d0 mp
  -- the size
  obtain ⟨s, es⟩ : ∃ s : Nat, 1 + d0 % (most : Int) = (s : Int) := ⟨(1 + d0 % (most : Int)).toNat, by omega⟩
  have s1 : 1 ≤ s := by omega
  have s2 : s ≤ most := by omega
  -- the items
  have hcut : cutT (ds.map T.int) (some 2) none = (ds.drop 2).map T.int := by
    rw [show (2 : Int) = ((2 : Nat) : Int) from rfl, cut_drop, List.map_drop]
  have hit : ∀ a0 a1 a2 a3 a5 a6 a7 a8 a9 a10 a11 a12 a13 a14, (pden G (runP G F (q + 4)) (.lc (.call n__law_item [.var 12]) (.nm 12) (.sl (.var 4) [.int 2] []) [] [12])).v [a0, a1, a2, a3, some (.lst (ds.map T.int)), a5, a6, a7, a8, a9, a10, a11, a12, a13, a14] = some (rowT ((ds.drop 2).map itemQ)) := by
    intro a0 a1 a2 a3 a5 a6 a7 a8 a9 a10 a11 a12 a13 a14
    rw [pv_lc_all (l := ds.drop 2) T.int (fun x => fr (itemQ x)) (by simp [hcut, -List.map_drop]) (fun x _ => by
      have := litem (G := G) L.toLFr L.it x (q + 1)
      simp [this]) (by rw [List.length_drop]; omega)]
    simp only [rowT, List.map_map]
    rfl
  have hil : ((ds.drop 2).map itemQ).length = most * (2 + letters.length * most) := by simp; omega
  have hio : ∀ x ∈ (ds.drop 2).map itemQ, Dg 12 1 x ∧ x.num.natAbs ≤ 64 := by
    intro x hx
    obtain ⟨y, _, rfl⟩ := List.mem_map.mp hx
    exact itemQ_ok y
  generalize (ds.drop 2).map itemQ = its0 at hit hil hio
  have habs : ∀ a0 a1 a2 a3 a4 a5 a7 a8 a9 a10 a11 a12 a13 a14, (pden G (runP G F (q + 4)) (.lc (.tup [.blt .abs [.ix (.var 13) (.int 0)], .int 1]) (.nm 13) (.mov 6) [] [13])).v [a0, a1, a2, a3, a4, a5, some (rowT its0), a7, a8, a9, a10, a11, a12, a13, a14] = some (rowT (its0.map fun x => (((x.num.natAbs : Nat) : Int) : Rat))) := by
    intro a0 a1 a2 a3 a4 a5 a7 a8 a9 a10 a11 a12 a13 a14
    rw [pv_lc_all (l := its0) fr (fun x => fr (((x.num.natAbs : Nat) : Int) : Rat)) (by simp [rowT]) (fun x _ => by
      have e : (if x.num < 0 then -x.num else x.num) = ((x.num.natAbs : Nat) : Int) := by split <;> omega
      rw [fr_int]
      simp [fr, e]) (by omega)]
    simp [rowT]
  -- the items as they are used
  obtain ⟨its, il, io, hits⟩ : ∃ its : List Rat, its.length = most * (2 + letters.length * most) ∧ (∀ x ∈ its, Dg 12 1 x) ∧ ∀ a0 a1 a2 a3 a5 a7 a8 a9 a10 a11 a12 a13 a14, pS G (runP G F (q + 4)) (.ite (.cmp .eq (.bin .mod (.ix (.var 4) (.int 1)) (.int 3)) (.int 0)) [.setc 6 (.tup [.blt .abs [.ix (.var 13) (.int 0)], .int 1]) (.nm 13) (.mov 6) [] [13]] []) [a0, a1, a2, a3, some (.lst (ds.map T.int)), a5, some (rowT its0), a7, a8, a9, a10, a11, a12, a13, a14] = some (.nx [a0, a1, a2, a3, some (.lst (ds.map T.int)), a5, some (rowT its), a7, a8, a9, a10, a11, a12, a13, a14]) := by
    by_cases h : d1 % 3 = 0
    · refine ⟨its0.map fun x => (((x.num.natAbs : Nat) : Int) : Rat), by simpa using hil, fun x hx => ?_, fun a0 a1 a2 a3 a5 a7 a8 a9 a10 a11 a12 a13 a14 => ?_⟩
      · obtain ⟨y, hy, rfl⟩ := List.mem_map.mp hx
        exact Dg.int (by have := (hio y hy).2; omega)
      · simp [-pv_lc, -atI_1, g1, h, habs]
    · exact ⟨its0, hil, fun x hx => (hio x hx).1, fun a0 a1 a2 a3 a5 a7 a8 a9 a10 a11 a12 a13 a14 => by simp [-pv_lc, -atI_1, g1, h]⟩
  have b2 : 2 * s + letters.length * s * s ≤ its.length := by
    rw [il, Nat.mul_add]
    have a1 : letters.length * s * s ≤ letters.length * most * most := Nat.mul_le_mul (Nat.mul_le_mul_left _ s2) s2
    have a2 : most * (letters.length * most) = letters.length * most * most := Nat.mul_comm _ _
    omega
  have hst : cutT (its.map fr) (some 0) (some (s : Int)) = (its.take s).map fr := by rw [cut_take, List.map_take]
  have hen : cutT (its.map fr) (some (s : Int)) (some (2 * (s : Int))) = ((its.drop s).take s).map fr := by
    have := cut_mid (xs := its.map fr) (a := s) (b := 2 * s) (by rw [List.length_map]; omega)
    rw [show 2 * s - s = s by omega, ← List.map_drop, ← List.map_take] at this
    rw [← this]; congr 2
  -- the start
  have hrg := rng_n (n := s) (by omega)
  have l3 : (3 : Nat).log2 < 9000 := by decide
  obtain ⟨st, sl, so, hstart⟩ : ∃ st : List Rat, st.length = s ∧ (∀ x ∈ st, Dg 12 1 x) ∧ ∀ a0 a1 a2 a3 a6 a8 a9 a10 a11 a12 a13 a14, pS G (runP G F (q + 4)) (.ite (.cmp .eq (.bin .mod (.bin .fdiv (.ix (.mov 4) (.int 1)) (.int 3)) (.int 3)) (.int 0)) [.setc 7 (.tup [.blt .int [.cmp .eq (.var 10) (.int 0)], .int 1]) (.nm 10) (.rng [.var 5]) [] [10]] []) [a0, a1, a2, a3, some (.lst (ds.map T.int)), some (.int (s : Nat)), a6, some (rowT (its.take s)), a8, a9, a10, a11, a12, a13, a14] = some (.nx [a0, a1, a2, a3, some (.lst (ds.map T.int)), some (.int (s : Nat)), a6, some (rowT st), a8, a9, a10, a11, a12, a13, a14]) := by
    by_cases h : d1 / 3 % 3 = 0
    · refine ⟨(List.range s).map fun k => (((if k = 0 then 1 else 0 : Nat) : Int) : Rat), by simp, fun x hx => ?_, fun a0 a1 a2 a3 a6 a8 a9 a10 a11 a12 a13 a14 => ?_⟩
      · obtain ⟨k, _, rfl⟩ := List.mem_map.mp hx
        exact Dg.int (by split <;> omega)
      · have hlc : (pden G (runP G F (q + 4)) (.lc (.tup [.blt .int [.cmp .eq (.var 10) (.int 0)], .int 1]) (.nm 10) (.rng [.var 5]) [] [10])).v [a0, a1, a2, a3, some (.lst (ds.map T.int)), some (.int (s : Nat)), a6, some (rowT (its.take s)), a8, a9, a10, a11, a12, a13, a14] = some (rowT ((List.range s).map fun k => (((if k = 0 then 1 else 0 : Nat) : Int) : Rat))) := by
          rw [pv_lc_all (l := List.range s) (fun i => T.int (i : Nat)) (fun k => fr (((if k = 0 then 1 else 0 : Nat) : Int) : Rat)) (by simp [hrg]) (fun k _ => by
            rw [fr_int]
            by_cases hk : k = 0 <;> simp [hk]) (by simp; omega)]
          simp [rowT]
        simp [-pv_lc, -atI_1, g1, h, hlc, l3]
    · exact ⟨its.take s, by simp; omega, fun x hx => io x (List.mem_of_mem_take hx), fun a0 a1 a2 a3 a6 a8 a9 a10 a11 a12 a13 a14 => by simp [-pv_lc, -atI_1, g1, h, l3]⟩
  obtain ⟨b10, b11, hsteps⟩ := steps_loop (G := G) (C := runP G F (q + 4)) (its := its) (s := s) (K := letters.length) (by omega) (by omega) b2 (some (.lst (ns.map T.int))) (some (.int at')) (some (.str letters)) (some (.int most)) (some (.lst (ds.map T.int))) (some (rowT st)) (some (rowT ((its.drop s).take s))) none none none letters.length 0 none none (by omega)
  have hrl := rng_n (n := letters.length) (by omega)
  have hrr : List.range letters.length = List.range' 0 letters.length := List.range_eq_range' ..
  rw [hrr] at hrl
  refine ⟨⟨letters, st, (List.range letters.length).map (stepTab its s), (its.drop s).take s⟩, s, ⟨s1, by omega, sl, by simp; omega, by simp, fun t ht => ?_, nd, by show letters.length ≤ 64; omega, so, fun x hx => io x (List.mem_of_mem_drop (List.mem_of_mem_take hx)), fun t ht l hl' x hx => ?_⟩, rfl, s2, ?_⟩
  · obtain ⟨k, hk, rfl⟩ := List.mem_map.mp ht
    have := stepTab_ok b2 (List.mem_range.mp hk)
    exact ⟨this.1, fun l m => (this.2 l m).1⟩
  · obtain ⟨k, hk, rfl⟩ := List.mem_map.mp ht
    have := stepTab_ok b2 (List.mem_range.mp hk)
    exact io x ((this.2 l hl').2 x hx)
  · have en : (2 + (most : Int) * (2 + (letters.length : Int) * most)) = ((2 + most * (2 + letters.length * most) : Nat) : Int) := by push_cast; rfl
    have e1' : runP G F (q + 4) n__law_numbers [.int cell, .int (2 + (most : Int) * (2 + (letters.length : Int) * most)), .int 5040] = some (.lst (ds.map T.int)) := by rw [en]; exact e1
    have ec' : runP G F (q + 4) n__law_cell [.lst (ns.map T.int), .int at'] = some (.int cell) := ec
    rw [show q + 5 = (q + 4) + 1 from rfl, runP1 L.ma _ _ rfl]
    unfold b_steps at hsteps
    simp only [pbind_nm, List.range_zero, List.map_nil] at hsteps
    simp only [machT]
    generalize hT : (((List.range letters.length).map (stepTab its s)).map tabT) = LT at hsteps ⊢
    have hstr : ∀ r : List Rat, rowT r = T.lst (r.map fr) := fun _ => rfl
    have hsl1 : ∀ a0 a1 a2 a3 a4 a7 a8 a9 a10 a11 a12 a13 a14, pS G (runP G F (q + 4)) (.set 7 (.sl (.var 6) [.int 0] [.var 5])) [a0, a1, a2, a3, a4, some (.int (s : Nat)), some (rowT its), a7, a8, a9, a10, a11, a12, a13, a14] = some (.nx [a0, a1, a2, a3, a4, some (.int (s : Nat)), some (rowT its), some (rowT (its.take s)), a8, a9, a10, a11, a12, a13, a14]) := by
      intro a0 a1 a2 a3 a4 a7 a8 a9 a10 a11 a12 a13 a14
      simp [rowT, hst, -List.map_take]
    have hsl2 : ∀ a0 a1 a2 a3 a4 a7 a8 a9 a10 a11 a12 a13 a14, pS G (runP G F (q + 4)) (.set 8 (.sl (.var 6) [.var 5] [.bin .mul (.int 2) (.var 5)])) [a0, a1, a2, a3, a4, some (.int (s : Nat)), some (rowT its), a7, a8, a9, a10, a11, a12, a13, a14] = some (.nx [a0, a1, a2, a3, a4, some (.int (s : Nat)), some (rowT its), a7, some (rowT ((its.drop s).take s)), a9, a10, a11, a12, a13, a14]) := by
      intro a0 a1 a2 a3 a4 a7 a8 a9 a10 a11 a12 a13 a14
      have sm : s < 18446744073709551616 := by omega
      simp [rowT, sm, hen, -List.map_take, -List.map_drop]
    have hs4 : ∀ a4 a5 a6 a7 a8 a9 a10 a11 a12 a13 a14, pS G (runP G F (q + 4)) (.set 4 (.call n__law_numbers [.call n__law_cell [.mov 0, .mov 1], .bin .add (.int 2) (.bin .mul (.var 3) (.bin .add (.int 2) (.bin .mul (.blt .len [.var 2]) (.var 3)))), .int 5040])) [some (.lst (ns.map T.int)), some (.int at'), some (.str letters), some (.int most), a4, a5, a6, a7, a8, a9, a10, a11, a12, a13, a14] = some (.nx [some (.lst (ns.map T.int)), some (.int at'), some (.str letters), some (.int most), some (.lst (ds.map T.int)), a5, a6, a7, a8, a9, a10, a11, a12, a13, a14]) := by
      intro a4 a5 a6 a7 a8 a9 a10 a11 a12 a13 a14
      simp [ec', mm, lm, e1']
    have hs5 : ∀ a0 a1 a2 a5 a6 a7 a8 a9 a10 a11 a12 a13 a14, pS G (runP G F (q + 4)) (.set 5 (.bin .add (.int 1) (.bin .mod (.ix (.var 4) (.int 0)) (.mov 3)))) [a0, a1, a2, some (.int most), some (.lst (ds.map T.int)), a5, a6, a7, a8, a9, a10, a11, a12, a13, a14] = some (.nx [a0, a1, a2, some (.int most), some (.lst (ds.map T.int)), some (.int (s : Nat)), a6, a7, a8, a9, a10, a11, a12, a13, a14]) := by
      intro a0 a1 a2 a5 a6 a7 a8 a9 a10 a11 a12 a13 a14
      have mp' : 0 < most := h1
      simp [-atI_0, g0, mp', es]
    have hs6 : ∀ a0 a1 a2 a3 a5 a6 a7 a8 a9 a10 a11 a12 a13 a14, pS G (runP G F (q + 4)) (.setc 6 (.call n__law_item [.var 12]) (.nm 12) (.sl (.var 4) [.int 2] []) [] [12]) [a0, a1, a2, a3, some (.lst (ds.map T.int)), a5, a6, a7, a8, a9, a10, a11, a12, a13, a14] = some (.nx [a0, a1, a2, a3, some (.lst (ds.map T.int)), a5, some (rowT its0), a7, a8, a9, a10, a11, a12, a13, a14]) := by
      intro a0 a1 a2 a3 a5 a6 a7 a8 a9 a10 a11 a12 a13 a14
      rw [pS_setc, hit]; simp
    unfold f__law_machine
    simp only [startP_eq, List.map_cons, List.map_nil, List.length_cons, List.length_nil, Nat.reduceAdd, Nat.reduceSub, List.replicate, List.cons_append, List.nil_append]
    rw [pSs_cons, hs4, Option.bind_some, pseq_nx, pSs_cons, hs5, Option.bind_some, pseq_nx, pSs_cons, hs6, Option.bind_some, pseq_nx, pSs_cons, hits, Option.bind_some, pseq_nx, pSs_cons, hsl1, Option.bind_some, pseq_nx, pSs_cons, hsl2, Option.bind_some, pseq_nx, pSs_cons, hstart, Option.bind_some, pseq_nx]
    simp [hrl, hsteps]
end
end Ev
namespace Ev
open PySem (sizeLine)
open PySem
/-- a text of n signs at most, of a tree of depth k at most -/
structure Shw (n k : Nat) (t : T) : Prop where
  can : (pyOf t).showable = true
  dep : (pyOf t).depth ≤ k
  len : (pyOf t).shown.length ≤ n
  asc : ∀ c ∈ (pyOf t).shown.cps.toList, c < 128
theorem app_list (x y : Str) : (x ++ y).cps.toList = x.cps.toList ++ y.cps.toList := by
  show (x.cps ++ y.cps).toList = _
  exact Array.toList_append
theorem join_asc : ∀ {l : List Str}, (∀ x ∈ l, ∀ c ∈ x.cps.toList, c < 128) → ∀ c ∈ (Str.join ", " l).cps.toList, c < 128
  | [], _, c, m => by simp [Str.join, Str.empty] at m
  | [x], h, c, m => h x (by simp) c m
  | x :: y :: r, h, c, m => by
    have e : Str.join ", " (x :: y :: r) = x ++ ", " ++ Str.join ", " (y :: r) := rfl
    rw [e, app_list, app_list, List.mem_append, List.mem_append] at m
    rcases m with (m | m) | m
    · exact h x (by simp) c m
    · have : ((", " : String) : Str).cps.toList = [44, 32] := by decide
      rw [this] at m
      simp at m; omega
    · exact join_asc (fun z hz => h z (List.mem_cons_of_mem _ hz)) c m
theorem join_len {n : Nat} : ∀ {l : List Str}, (∀ x ∈ l, x.length ≤ n) → (Str.join ", " l).length ≤ l.length * (n + 2)
  | [], _ => by show 0 ≤ _; omega
  | [x], h => by
    have := h x (by simp)
    show x.length ≤ 1 * (n + 2)
    omega
  | x :: y :: r, h => by
    have h1 := h x (by simp)
    have h2 := join_len (l := y :: r) (fun z hz => h z (List.mem_cons_of_mem _ hz))
    have e : ((", " : String) : Str).length = 2 := rfl
    have ej : Str.join ", " (x :: y :: r) = x ++ ", " ++ Str.join ", " (y :: r) := rfl
    rw [ej, strLen_append, strLen_append, e, List.length_cons, Nat.succ_mul]
    omega
theorem pyOfL_map {α : Type} (f : α → T) : ∀ l : List α, pyOfL (l.map f) = l.map fun a => pyOf (f a)
  | [] => rfl
  | a :: l => by
    show pyOf (f a) :: pyOfL (l.map f) = _
    rw [pyOfL_map f l]; rfl
theorem pyOfL_eq : ∀ l : List T, pyOfL l = l.map pyOf
  | [] => rfl
  | a :: l => by
    show pyOf a :: pyOfL l = _
    rw [pyOfL_eq l]; rfl
theorem shownAll_eq : ∀ l : List PyData, PyData.shownAll l = l.map PyData.shown
  | [] => PyData.shownAll_nil
  | a :: l => by rw [PyData.shownAll_cons, shownAll_eq l]; rfl
theorem depthAll_le {k : Nat} : ∀ {l : List PyData}, (∀ d ∈ l, d.depth ≤ k) → PyData.depthAll l ≤ k
  | [], _ => by simp only [PyData.depthAll]; omega
  | a :: l, h => by
    simp only [PyData.depthAll]
    have := h a (by simp)
    have := depthAll_le (l := l) (fun d m => h d (by simp [m]))
    omega
theorem Shw.mono {n m j k : Nat} {t : T} (h : Shw n j t) (a : n ≤ m) (b : j ≤ k) : Shw m k t := ⟨h.can, Nat.le_trans h.dep b, Nat.le_trans h.len a, h.asc⟩
theorem Shw.lst {n k : Nat} {xs : List T} (h : ∀ x ∈ xs, Shw n k x) : Shw (xs.length * (n + 2) + 3) (k + 1) (.lst xs) := by
  have hk : ∀ d ∈ pyOfL xs, ∃ x ∈ xs, d = pyOf x := fun d m => by
    rw [pyOfL_eq] at m
    obtain ⟨x, mx, rfl⟩ := List.mem_map.mp m
    exact ⟨x, mx, rfl⟩
  have es : (pyOf (.lst xs)).shown = ("[" : Str) ++ Str.join ", " (PyData.shownAll (pyOfL xs)) ++ "]" := PyData.shown_list _
  have hs : ∀ y ∈ PyData.shownAll (pyOfL xs), y.length ≤ n ∧ ∀ c ∈ y.cps.toList, c < 128 := fun y m => by
    rw [shownAll_eq] at m
    obtain ⟨d, md, rfl⟩ := List.mem_map.mp m
    obtain ⟨x, mx, rfl⟩ := hk d md
    exact ⟨(h x mx).len, (h x mx).asc⟩
  have el : (PyData.shownAll (pyOfL xs)).length = xs.length := by rw [shownAll_eq, pyOfL_eq]; simp
  refine ⟨Spec.showableAll_of fun d m => ?_, ?_, ?_, ?_⟩
  · obtain ⟨x, mx, rfl⟩ := hk d m
    exact (h x mx).can
  · show PyData.depthAll (pyOfL xs) + 1 ≤ k + 1
    have := depthAll_le (k := k) (l := pyOfL xs) (fun d m => by obtain ⟨x, mx, rfl⟩ := hk d m; exact (h x mx).dep)
    omega
  · have := join_len (fun y m => (hs y m).1)
    rw [el] at this
    have e1 : (("[" : String) : Str).length = 1 := rfl
    have e2 : (("]" : String) : Str).length = 1 := rfl
    rw [es, strLen_append, strLen_append, e1, e2]
    omega
  · rw [es, app_list, app_list]
    intro c m
    rw [List.mem_append, List.mem_append] at m
    rcases m with (m | m) | m
    · have : (("[" : String) : Str).cps.toList = [91] := by decide
      rw [this] at m; simp at m; omega
    · exact join_asc (fun y m => (hs y m).2) c m
    · have : (("]" : String) : Str).cps.toList = [93] := by decide
      rw [this] at m; simp at m; omega
theorem Shw.tup {n k : Nat} {xs : List T} (h : ∀ x ∈ xs, Shw n k x) : Shw (xs.length * (n + 2) + 3) (k + 1) (.tup xs) := by
  have hk : ∀ d ∈ pyOfL xs, ∃ x ∈ xs, d = pyOf x := fun d m => by
    rw [pyOfL_eq] at m
    obtain ⟨x, mx, rfl⟩ := List.mem_map.mp m
    exact ⟨x, mx, rfl⟩
  have es : (pyOf (.tup xs)).shown = ("(" : Str) ++ Str.join ", " (PyData.shownAll (pyOfL xs)) ++ (if (pyOfL xs).length == 1 then ",)" else ")" : String) := PyData.shown_tuple _
  have hs : ∀ y ∈ PyData.shownAll (pyOfL xs), y.length ≤ n ∧ ∀ c ∈ y.cps.toList, c < 128 := fun y m => by
    rw [shownAll_eq] at m
    obtain ⟨d, md, rfl⟩ := List.mem_map.mp m
    obtain ⟨x, mx, rfl⟩ := hk d md
    exact ⟨(h x mx).len, (h x mx).asc⟩
  have el : (PyData.shownAll (pyOfL xs)).length = xs.length := by rw [shownAll_eq, pyOfL_eq]; simp
  refine ⟨Spec.showableAll_of fun d m => ?_, ?_, ?_, ?_⟩
  · obtain ⟨x, mx, rfl⟩ := hk d m
    exact (h x mx).can
  · show PyData.depthAll (pyOfL xs) + 1 ≤ k + 1
    have := depthAll_le (k := k) (l := pyOfL xs) (fun d m => by obtain ⟨x, mx, rfl⟩ := hk d m; exact (h x mx).dep)
    omega
  · have := join_len (fun y m => (hs y m).1)
    rw [el] at this
    have e1 : (("(" : String) : Str).length = 1 := rfl
    have e2 : ((if (pyOfL xs).length == 1 then ",)" else ")" : String) : Str).length ≤ 2 := by
      split <;> decide
    rw [es, strLen_append, strLen_append, e1]
    omega
  · rw [es, app_list, app_list]
    intro c m
    rw [List.mem_append, List.mem_append] at m
    rcases m with (m | m) | m
    · have : (("(" : String) : Str).cps.toList = [40] := by decide
      rw [this] at m; simp at m; omega
    · exact join_asc (fun y m => (hs y m).2) c m
    · split at m
      · have : ((",)" : String) : Str).cps.toList = [44, 41] := by decide
        rw [this] at m; simp at m; omega
      · have : ((")" : String) : Str).cps.toList = [41] := by decide
        rw [this] at m; simp at m; omega
theorem asc_nat (n : Nat) : ∀ c ∈ (Str.ofString (Nat.repr n)).cps.toList, c < 128 := by
  rw [Str.ofString_eq_toList]
  intro c m
  have m : c ∈ (Nat.repr n).toList.map Char.toNat := by simpa using m
  obtain ⟨d, md, rfl⟩ := List.mem_map.mp m
  have : d.isDigit = true := Nat.isDigit_of_mem_toDigits (b := 10) (n := n) (by decide) (by decide) (by simpa [Nat.repr] using md)
  simp only [Char.isDigit, Bool.and_eq_true, decide_eq_true_eq] at this
  have h2 : d.val ≤ 57 := this.2
  have : d.toNat ≤ 57 := h2
  omega
theorem Shw.int {i : Int} {k : Nat} (hk : 0 < k) (h : i.natAbs < 2 ^ k) (hk2 : k ≤ 1900) : Shw (k + 1) 0 (.int i) := by
  have es : (pyOf (.int i)).shown = Str.ofString (toString i) := PyData.shown_int i
  have hl : i.natAbs.log2 < k := log2_lt h hk
  refine ⟨?_, Nat.le_refl _, ?_, ?_⟩
  · show decide (i.natAbs.log2 < 1920) = true
    exact decide_eq_true (by omega)
  · rw [es, Str.ofString_eq_toList]
    have := int_text_length_le hk hl
    show ((toString i).toList.map Char.toNat).toArray.size ≤ _
    rw [List.size_toArray, List.length_map, String.length_toList]
    exact this
  · rw [es]
    cases i with
    | ofNat m => exact asc_nat m
    | negSucc m =>
      have e : toString (Int.negSucc m) = "-" ++ Nat.repr (m + 1) := rfl
      rw [e, Str.ofString_eq_toList]
      intro c mc
      have mc : c ∈ ("-" ++ Nat.repr (m + 1)).toList.map Char.toNat := by simpa using mc
      rw [String.toList_append, List.map_append, List.mem_append] at mc
      rcases mc with mc | mc
      · have : "-".toList.map Char.toNat = [45] := by decide
        rw [this] at mc; simp at mc; omega
      · have := asc_nat (m + 1)
        rw [Str.ofString_eq_toList] at this
        exact this c (by simpa using mc)
theorem Shw.non {n k : Nat} (h : 4 ≤ n) : Shw n k .non := by
  refine ⟨rfl, Nat.zero_le _, ?_, ?_⟩
  · show (PyData.none).shown.length ≤ n
    rw [PyData.shown_none]
    exact Nat.le_trans (by decide) h
  · show ∀ c ∈ (PyData.none).shown.cps.toList, c < 128
    rw [PyData.shown_none]
    decide
theorem Shw.fr {q : Rat} {s : Nat} (h : Sz s q) (hs : 0 < s) (hs2 : s ≤ 1900) : Shw (2 * (s + 1 + 2) + 3) 1 (fr q) :=
  Shw.tup (xs := [.int q.num, .int (q.den : Int)]) (n := s + 1) (k := 0) fun x m => by
    simp only [List.mem_cons, List.not_mem_nil, or_false] at m
    rcases m with rfl | rfl
    · exact Shw.int hs h.1 hs2
    · exact Shw.int hs (by simpa using h.2) hs2
theorem Shw.ok {n k : Nat} {t : T} (h : Shw n k t) (hn : n ≤ 10000000) (hk : k ≤ 64) : reprD (pyOf t) = some (pyOf t).shown.cps.toList := by
  unfold reprD
  have h1 : (pyOf t).shown.length ≤ sizeLine := Nat.le_trans h.len (Nat.le_trans hn (by show 10000000 ≤ 2 ^ 24; decide))
  have h2 : ((pyOf t).shown.cps.toList.all fun c => decide (c < 128)) = true := List.all_eq_true.mpr fun c m => decide_eq_true (h.asc c m)
  rw [h.can, h2, decide_eq_true (Nat.le_trans h.dep hk), decide_eq_true h1]
  rfl
theorem repr_tup {n k : Nat} {xs : List T} (h : Shw n k (.tup xs)) (hn : n ≤ 10000000) (hk : k ≤ 64) : bltV .repr [.tup xs] = some (.str (pyOf (.tup xs)).shown.cps.toList) := by
  show (reprS (.tup xs)).map T.str = _
  have : reprS (.tup xs) = reprD (pyOf (.tup xs)) := rfl
  rw [this, h.ok hn hk]; rfl
theorem repr_lst {n k : Nat} {xs : List T} (h : Shw n k (.lst xs)) (hn : n ≤ 10000000) (hk : k ≤ 64) : bltV .repr [.lst xs] = some (.str (pyOf (.lst xs)).shown.cps.toList) := by
  show (reprS (.lst xs)).map T.str = _
  have : reprS (.lst xs) = reprD (pyOf (.lst xs)) := rfl
  rw [this, h.ok hn hk]; rfl
/-- a text without odd signs -/
theorem Shw.str {s : List Nat} (h : ((reprText ⟨s.toArray⟩).cps.toList.all fun c => decide (c < 128)) = true) (hl : (reprText ⟨s.toArray⟩).length ≤ 100) : Shw 100 0 (.str s) := by
  have es : (pyOf (.str s)).shown = reprText ⟨s.toArray⟩ := PyData.shown_str _
  refine ⟨rfl, Nat.le_refl _, by rw [es]; exact hl, ?_⟩
  rw [es]
  intro c m
  simpa using List.all_eq_true.mp h c m
theorem Shw.ab : Shw 100 0 (.str [97, 98]) := .str (by decide +kernel) (by decide +kernel)
theorem Shw.abc : Shw 100 0 (.str [97, 98, 99]) := .str (by decide +kernel) (by decide +kernel)
theorem Shw.a : Shw 100 0 (.str [97]) := .str (by decide +kernel) (by decide +kernel)
theorem Shw.b : Shw 100 0 (.str [98]) := .str (by decide +kernel) (by decide +kernel)
theorem Shw.c : Shw 100 0 (.str [99]) := .str (by decide +kernel) (by decide +kernel)
end Ev
namespace Ev
open PySem (sizeLine)
def Sm (n : Nat) (f : Nat → Rat) : Rat := ((List.range n).map f).sum
theorem rs_add {α : Type} (f g : α → Rat) : ∀ l : List α, (l.map fun j => f j + g j).sum = (l.map f).sum + (l.map g).sum
  | [] => by simp [Rat.add_zero]
  | a :: l => by
    simp only [List.map_cons, List.sum_cons, rs_add f g l]
    grind
theorem rs_mul {α : Type} (x : Rat) (f : α → Rat) : ∀ l : List α, (l.map fun j => x * f j).sum = x * (l.map f).sum
  | [] => by simp
  | a :: l => by
    simp only [List.map_cons, List.sum_cons, rs_mul x f l]
    grind
theorem rs_zero {α : Type} : ∀ l : List α, (l.map fun _ => (0 : Rat)).sum = 0
  | [] => rfl
  | a :: l => by
    simp only [List.map_cons, List.sum_cons, rs_zero l]
    exact Rat.add_zero 0
theorem rs_swap {α β : Type} (f : α → β → Rat) (m : List β) : ∀ l : List α, (l.map fun a => (m.map fun b => f a b).sum).sum = (m.map fun b => (l.map fun a => f a b).sum).sum
  | [] => by simp [rs_zero]
  | a :: l => by
    simp only [List.map_cons, List.sum_cons, rs_swap f m l]
    rw [rs_add]
theorem Sm_congr {n : Nat} {f g : Nat → Rat} (h : ∀ i, i < n → f i = g i) : Sm n f = Sm n g := by
  unfold Sm
  congr 1
  exact List.map_congr_left fun i hi => h i (by simpa using hi)
theorem Sm_add {n : Nat} {f g : Nat → Rat} : Sm n (fun i => f i + g i) = Sm n f + Sm n g := rs_add f g _
theorem Sm_mul {n : Nat} {x : Rat} {f : Nat → Rat} : Sm n (fun i => x * f i) = x * Sm n f := rs_mul x f _
theorem Sm_mulr {n : Nat} {x : Rat} {f : Nat → Rat} : Sm n (fun i => f i * x) = Sm n f * x := by
  rw [Rat.mul_comm, ← Sm_mul]
  exact Sm_congr fun i _ => Rat.mul_comm _ _
theorem Sm_zero {n : Nat} : Sm n (fun _ => 0) = 0 := rs_zero _
theorem Sm_swap {n m : Nat} {f : Nat → Nat → Rat} : Sm n (fun i => Sm m (fun j => f i j)) = Sm m (fun j => Sm n (fun i => f i j)) := rs_swap f _ _
theorem Sm_succ {n : Nat} {f : Nat → Rat} : Sm (n + 1) f = Sm n f + f n := by
  unfold Sm
  rw [List.range_succ, List.map_append, List.sum_append, List.map_cons, List.map_nil, List.sum_cons, List.sum_nil, Rat.add_zero]
theorem Sm_head {n : Nat} {f : Nat → Rat} : Sm (n + 1) f = f 0 + Sm n (fun i => f (i + 1)) := by
  unfold Sm
  rw [List.range_succ_eq_map, List.map_cons, List.sum_cons, List.map_map]
  rfl
theorem Sm_one {i : Nat} {f : Nat → Rat} : ∀ {n : Nat}, i < n → Sm n (fun k => if k = i then f k else 0) = f i
  | 0, h => by omega
  | n + 1, h => by
    rw [Sm_succ]
    by_cases e : n = i
    · subst e
      have : Sm n (fun k => if k = n then f k else 0) = 0 := by
        refine Eq.trans (Sm_congr fun k hk => ?_) (Sm_zero (n := n))
        have : ¬ k = n := by omega
        rw [if_neg this]
      rw [this, if_pos rfl, Rat.zero_add]
    · rw [Sm_one (by omega), if_neg e, Rat.add_zero]
theorem getD_range {l : List Rat} {n : Nat} (h : l.length = n) : (List.range n).map (fun j => l.getD j 0) = l :=
  List.ext_getElem (by simp [h]) fun i h1 h2 => by simp [h2]
theorem getD_mapR {f : Nat → Rat} {n i : Nat} (h : i < n) : ((List.range n).map f).getD i 0 = f i := by simp [h]
theorem dot_map2 {α : Type} (f g : α → Rat) : ∀ l : List α, dot (l.map f) (l.map g) = (l.map fun k => f k * g k).sum
  | [] => rfl
  | a :: l => by simp only [List.map_cons, dot, List.sum_cons, dot_map2 f g l]
theorem dot_Sm {r o : List Rat} {n : Nat} (h1 : r.length = n) (h2 : o.length = n) : dot r o = Sm n fun i => r.getD i 0 * o.getD i 0 := by
  have e1 := getD_range h1
  have e2 := getD_range h2
  conv => lhs; rw [← e1, ← e2]
  rw [dot_map2]; rfl
theorem col_len {m : List (List Rat)} {j : Nat} : (col m j).length = m.length := by simp [col]
theorem col_getD {m : List (List Rat)} {i j : Nat} (h : i < m.length) : (col m j).getD i 0 = (m.getD i []).getD j 0 := by
  simp [col, h]
theorem rowBy_getD {r : List Rat} {m : List (List Rat)} {w j : Nat} (h : Rect w m) (hl : r.length = m.length) (hj : j < w) : (rowBy r m).getD j 0 = Sm m.length fun i => r.getD i 0 * (m.getD i []).getD j 0 := by
  unfold rowBy
  rw [h.head, getD_mapR hj, dot_Sm hl col_len]
  exact Sm_congr fun i hi => by rw [col_getD hi]
/-- rows that are the same place by place -/
theorem row_ext {r o : List Rat} {n : Nat} (h1 : r.length = n) (h2 : o.length = n) (h : ∀ i, i < n → r.getD i 0 = o.getD i 0) : r = o := by
  rw [← getD_range h1, ← getD_range h2]
  exact List.map_congr_left fun i hi => h i (by simpa using hi)
/-- the worth of a word from a row on -/
def fromR (M : Mach) (r : List Rat) (w : List Nat) : Rat := dot (reachF M r w) M.fin
theorem worth_from (M : Mach) (w : List Nat) : worthM M w = fromR M M.start w := rfl
theorem from_cons (M : Mach) (r : List Rat) (a : Nat) (w : List Nat) : fromR M r (a :: w) = fromR M (rowBy r (M.tab a)) w := rfl
section
variable {N d n : Nat} {M : Mach}
/-- a row times a column behind a table -/
theorem rowBy_pair {r v : List Rat} {m : List (List Rat)} (h : Rect n m) (hm : m.length = n) (hr : r.length = n) (hv : v.length = n) : dot (rowBy r m) v = Sm n fun i => r.getD i 0 * Sm n fun j => (m.getD i []).getD j 0 * v.getD j 0 := by
  rw [dot_Sm (rowBy_len h) hv]
  have e : ∀ j, j < n → (rowBy r m).getD j 0 * v.getD j 0 = Sm n fun i => r.getD i 0 * ((m.getD i []).getD j 0 * v.getD j 0) := fun j hj => by
    rw [rowBy_getD h (by rw [hr, hm]) hj, hm, ← Sm_mulr]
    exact Sm_congr fun i _ => by grind
  rw [Sm_congr e, Sm_swap]
  exact Sm_congr fun i _ => Sm_mul
/-- a word's column -/
theorem from_col (K : Mc N d n M) : ∀ w : List Nat, (∀ a ∈ w, a ∈ M.letters) → ∃ v : List Rat, v.length = n ∧ ∀ r : List Rat, r.length = n → fromR M r w = dot r v
  | [], _ => ⟨M.fin, K.lf, fun r _ => rfl⟩
  | a :: w, h => by
    obtain ⟨v, hv, e⟩ := from_col K w fun b m => h b (by simp [m])
    have R := K.rect (h a (by simp))
    have hm := (K.tb _ (K.tab_mem (h a (by simp)))).1
    refine ⟨(List.range n).map fun i => Sm n fun j => ((M.tab a).getD i []).getD j 0 * v.getD j 0, by simp, fun r hr => ?_⟩
    rw [from_cons, e _ (rowBy_len R), rowBy_pair R hm hr hv, dot_Sm hr (by simp)]
    exact Sm_congr fun i hi => by rw [getD_mapR hi]
/-- linear in the row -/
theorem from_lin (K : Mc N d n M) {w : List Nat} (hw : ∀ a ∈ w, a ∈ M.letters) {α : Type} (l : List α) (c : α → Rat) (u : α → List Rat) {r : List Rat} (hr : r.length = n) (hu : ∀ a ∈ l, (u a).length = n) (h : ∀ i, i < n → r.getD i 0 = (l.map fun a => c a * (u a).getD i 0).sum) : fromR M r w = (l.map fun a => c a * fromR M (u a) w).sum := by
  obtain ⟨v, hv, e⟩ := from_col K w hw
  rw [e r hr, dot_Sm hr hv]
  have e1 : ∀ i, i < n → r.getD i 0 * v.getD i 0 = (l.map fun a => c a * ((u a).getD i 0 * v.getD i 0)).sum := fun i hi => by
    rw [h i hi, Rat.mul_comm, ← rs_mul]
    congr 1
    exact List.map_congr_left fun a _ => by grind
  rw [Sm_congr e1]
  unfold Sm
  rw [rs_swap]
  congr 1
  refine List.map_congr_left fun a ha => ?_
  rw [rs_mul, e _ (hu a ha), dot_Sm (hu a ha) hv]
  rfl
theorem from_add (K : Mc N d n M) {w : List Nat} (hw : ∀ a ∈ w, a ∈ M.letters) {r s t : List Rat} (hr : r.length = n) (hs : s.length = n) (ht : t.length = n) (h : ∀ i, i < n → r.getD i 0 = s.getD i 0 + t.getD i 0) : fromR M r w = fromR M s w + fromR M t w := by
  have := from_lin K hw [s, t] (fun _ => 1) id hr (fun a m => by simp at m; rcases m with rfl | rfl <;> assumption) (fun i hi => by
    have := h i hi
    simp only [List.map_cons, List.map_nil, List.sum_cons, List.sum_nil, Rat.one_mul, Rat.add_zero, id]
    exact this)
  simpa [Rat.one_mul, Rat.add_zero] using this
end
def zeroR (s : Nat) : List Rat := List.replicate s 0
def eyeM (s : Nat) : List (List Rat) := (List.range s).map fun i => (List.range s).map fun k => (((if i = k then 1 else 0 : Nat) : Int) : Rat)
theorem zeroR_len {s : Nat} : (zeroR s).length = s := by simp [zeroR]
theorem zeroR_getD {s i : Nat} : (zeroR s).getD i 0 = 0 := by
  unfold zeroR
  by_cases h : i < s <;> simp [h]
theorem zeroR_dg {N d s : Nat} (hN : 0 < N) : ∀ x ∈ zeroR s, Dg N d x := fun x m => by
  have : x = 0 := (List.mem_replicate.mp m).2
  subst this
  exact ⟨0, by simp, by simp⟩
theorem one_dg {N d : Nat} (hN : 0 < N) : Dg N d 1 := Dg.mono hN (⟨1, by simp, by simp⟩ : Dg N 0 1) (by omega)
theorem zero_dg {N d : Nat} : Dg N d 0 := ⟨0, by simp, by simp⟩
theorem eyeM_dg {N d s : Nat} (hN : 0 < N) : ∀ l ∈ eyeM s, ∀ x ∈ l, Dg N d x := fun l ml x mx => by
  obtain ⟨i, _, rfl⟩ := List.mem_map.mp ml
  obtain ⟨k, _, rfl⟩ := List.mem_map.mp mx
  split
  · exact one_dg hN
  · exact zero_dg
theorem eyeM_ok {s : Nat} : (eyeM s).length = s ∧ ∀ l ∈ eyeM s, l.length = s := ⟨by simp [eyeM], fun l m => by
  obtain ⟨i, _, rfl⟩ := List.mem_map.mp m
  simp⟩
theorem eyeM_getD {s i j : Nat} (hi : i < s) (hj : j < s) : ((eyeM s).getD i []).getD j 0 = if i = j then 1 else 0 := by
  simp [eyeM, hi, hj]
  split <;> rfl
theorem rowBy_eye {s : Nat} (hs : 1 ≤ s) {r : List Rat} (hr : r.length = s) : rowBy r (eyeM s) = r := by
  have R : Rect s (eyeM s) := ⟨fun e => by have := (eyeM_ok (s := s)).1; rw [e] at this; simp at this; omega, eyeM_ok.2⟩
  refine row_ext (rowBy_len R) hr fun j hj => ?_
  rw [rowBy_getD R (by rw [hr, eyeM_ok.1]) hj, eyeM_ok.1]
  rw [← Sm_one (f := fun k => r.getD k 0) hj]
  refine Sm_congr fun i hi => ?_
  rw [eyeM_getD hi hj]
  split
  · exact Rat.mul_one _
  · exact Rat.mul_zero _
section
variable {G : List Nat → Option T} {F : List Nat → Option Fn} {N d n : Nat} {M : Mach}
theorem pun_zeros (hf : F n__law_zeros = some f__law_zeros) {s : Nat} (hs : s ≤ 1000) (q : Nat) : runP G F (q + 1) n__law_zeros [.int (s : Nat)] = some (rowT (zeroR s)) := by
  have hrg := rng_n (n := s) (by omega)
  have hlc : (pden G (runP G F q) (.lc (.tup [.int 0, .int 1]) (.nm 1) (.rng [.mov 0]) [] [1])).v [some (.int (s : Nat)), none] = some (rowT (zeroR s)) := by
    rw [pv_lc_all (l := List.range s) (fun i => T.int (i : Nat)) (fun _ => fr 0) (by simp [hrg]) (fun a _ => by simp [fr_zero]) (by simp; omega)]
    simp [rowT, zeroR, List.map_const']
  rw [runP1 hf _ _ rfl]
  simp [f__law_zeros, -pv_lc, hlc]
theorem pun_ones (hf : F n__law_ones = some f__law_ones) {s : Nat} (hs : s ≤ 1000) (q : Nat) : runP G F (q + 1) n__law_ones [.int (s : Nat)] = some (tabT (eyeM s)) := by
  have hrg := rng_n (n := s) (by omega)
  have inner : ∀ i s2, (pden G (runP G F q) (.lc (.tup [.blt .int [.cmp .eq (.var 1) (.var 2)], .int 1]) (.nm 2) (.rng [.var 0]) [] [2])).v [some (.int (s : Nat)), some (.int (i : Nat)), s2] = some (rowT ((List.range s).map fun k => (((if i = k then 1 else 0 : Nat) : Int) : Rat))) := by
    intro i s2
    rw [pv_lc_all (l := List.range s) (fun i => T.int (i : Nat)) (fun k => fr (((if i = k then 1 else 0 : Nat) : Int) : Rat)) (by simp [hrg]) (fun k _ => by
      rw [fr_int]
      by_cases hk : i = k
      · subst hk; simp
      · have : ¬ (i : Int) = (k : Int) := by omega
        simp [hk, this]) (by simp; omega)]
    simp [rowT]
  have outer : (pden G (runP G F q) (.lc (.lc (.tup [.blt .int [.cmp .eq (.var 1) (.var 2)], .int 1]) (.nm 2) (.rng [.var 0]) [] [2]) (.nm 1) (.rng [.var 0]) [] [1])).v [some (.int (s : Nat)), none, none] = some (tabT (eyeM s)) := by
    rw [pv_lc_all (l := List.range s) (fun i => T.int (i : Nat)) (fun i => rowT ((List.range s).map fun k => (((if i = k then 1 else 0 : Nat) : Int) : Rat))) (by simp [hrg]) (fun i _ => by simp [-pv_lc, inner]) (by simp; omega)]
    simp [tabT, eyeM]
  rw [runP1 hf _ _ rfl]
  simp [f__law_ones, -pv_lc, outer]
theorem pun_copy (hf : F n__law_copy = some f__law_copy) (K : Mc N d n M) (q : Nat) : runP G F (q + 1) n__law_copy [machT M] = some (machT M) := by
  have inner : ∀ t ∈ M.steps, ∀ s2, (pden G (runP G F q) (.lc (.blt .list [.var 2]) (.nm 2) (.var 1) [] [2])).v [some (machT M), some (tabT t), s2] = some (tabT t) := by
    intro t ht s2
    rw [pv_lc_all (l := t) rowT rowT (by simp [tabT]) (fun l _ => by simp [rowT]) (by rw [(K.tb t ht).1]; have := K.n2; omega)]
    simp [tabT]
  have outer : (pden G (runP G F q) (.lc (.lc (.blt .list [.var 2]) (.nm 2) (.var 1) [] [2]) (.nm 1) (.ix (.var 0) (.int 2)) [] [1])).v [some (machT M), none, none] = some (.lst (M.steps.map tabT)) := by
    rw [pv_lc_all (l := M.steps) tabT tabT (by simp [machT]) (fun t ht => by simp [-pv_lc, inner t ht]) (by rw [K.lt]; have := K.ll; omega)]
  rw [runP1 hf _ _ rfl]
  have hm : machT M = .tup [.str M.letters, rowT M.start, .lst (M.steps.map tabT), rowT M.fin] := rfl
  simp only [f__law_copy, startP_eq, List.map_cons, List.map_nil, List.length_cons, List.length_nil, Nat.reduceAdd, Nat.reduceSub, List.replicate, List.cons_append, List.nil_append]
  simp [-pv_lc, outer]
  simp [hm, rowT]
/-- a told machine is the due one; what is appended to it harms no one -/
theorem pun_answer (hf : F (0 :: n__law_answer) = some f__law_answer) (hs : F n__law_same = some f__law_same) (K : Mc N d n M) (hl : 1 ≤ M.letters.length) (q : Nat) : ∃ t1, runP G F (q + 7) (0 :: n__law_answer) [machT M, machT M] = some (.tup [.bl true, t1]) := by
  have n1 := K.n1
  have n2 := K.n2
  have e1 : runP G F (q + 6) n__law_same [machT M, machT M] = some (.bl true) := psame_refl (G := G) (f := n__law_same) hs 5 (machT M) (K.dat (k := 0)) q
  obtain ⟨t0, ts, es⟩ : ∃ t0 ts, M.steps = t0 :: ts := by
    have := K.lt
    cases h : M.steps with
    | nil => rw [h] at this; simp at this; omega
    | cons a b => exact ⟨a, b, rfl⟩
  obtain ⟨r0, rs, er⟩ : ∃ r0 rs, t0 = r0 :: rs := by
    have := (K.tb t0 (by rw [es]; simp)).1
    cases h : t0 with
    | nil => rw [h] at this; simp at this; omega
    | cons a b => exact ⟨a, b, rfl⟩
  have z1 : M.start.length < sizeLine := lt_size (by rw [K.ls]; omega)
  have z2 : r0.length < sizeLine := lt_size (by rw [(K.tb t0 (by rw [es]; simp)).2 r0 (by rw [er]; simp)]; omega)
  have z3 : ts.length + 1 < sizeLine := lt_size (by have h := K.lt; have h2 := K.ll; rw [es] at h; simp at h; omega)
  have z4 : M.fin.length < sizeLine := lt_size (by rw [K.lf]; omega)
  have i1 : L2.ixN 4 1 = some 1 := rfl
  have i2 : L2.ixN 4 2 = some 2 := rfl
  have i3 : L2.ixN 4 3 = some 3 := rfl
  have i4 : ∀ k : Nat, L2.ixN (k + 1) 0 = some 0 := fun k => by unfold L2.ixN; simp
  refine ⟨.tup [.str M.letters, .lst (M.start.map fr ++ [.int 0]), .lst (.lst (.lst (r0.map fr ++ [.int 0]) :: rs.map rowT) :: ts.map tabT ++ [.int 0]), .lst (M.fin.map fr ++ [.int 0])], ?_⟩
  rw [show q + 7 = (q + 6) + 1 from rfl, runP1 hf _ _ rfl]
  have hm : machT M = .tup [.str M.letters, .lst (M.start.map fr), .lst (.lst (.lst (r0.map fr) :: rs.map rowT) :: ts.map tabT), .lst (M.fin.map fr)] := by
    unfold machT rowT
    rw [es, er]
    rfl
  rw [hm] at e1 ⊢
  simp [f__law_answer, i__law_answer, ownM, e1, i1, i2, i3, i4, z1, z2, z3, z4, rootOk]
end
end Ev
namespace Ev
theorem app_l {α : Type} {x : α} {r o : List α} {n i : Nat} (h : r.length = n) (hi : i < n) : (r ++ o).getD i x = r.getD i x := by
  simp [List.getElem?_append, h, hi]
theorem app_r {α : Type} {x : α} {r o : List α} {n i : Nat} (h : r.length = n) : (r ++ o).getD (n + i) x = o.getD i x := by
  have : ¬ n + i < n := by omega
  simp [List.getElem?_append, h, this]
theorem map_at {α : Type} {f : Nat → α} {x : α} {n i : Nat} (h : i < n) : ((List.range n).map f).getD i x = f i := by simp [h]
theorem Sm_split {n : Nat} {f : Nat → Rat} : ∀ m : Nat, Sm (n + m) f = Sm n f + Sm m (fun i => f (n + i))
  | 0 => by
    show Sm n f = Sm n f + 0
    rw [Rat.add_zero]
  | m + 1 => by
    rw [← Nat.add_assoc, Sm_succ, Sm_split m, Sm_succ]
    grind
def twT (n : Nat) (A X : List (List Rat)) : List (List Rat) := ((List.range n).map fun i => A.getD i [] ++ X.getD i []) ++ (List.range n).map fun i => zeroR n ++ A.getD i []
def twM (M : Mach) (n : Nat) (second : List Rat) (across : List (List (List Rat))) : Mach := ⟨M.letters, M.start ++ second, (List.range M.letters.length).map fun t => twT n (M.steps.getD t []) (across.getD t []), zeroR n ++ M.fin⟩
/-- a square table -/
def Sq (n : Nat) (m : List (List Rat)) : Prop := m.length = n ∧ ∀ l ∈ m, l.length = n
theorem Sq.rect {n : Nat} {m : List (List Rat)} (h1 : 1 ≤ n) (h : Sq n m) : Rect n m := ⟨fun e => by have := h.1; rw [e] at this; simp at this; omega, h.2⟩
theorem Sq.at_ {n i : Nat} {m : List (List Rat)} (h : Sq n m) (hi : i < n) : (m.getD i []).length = n ∧ m.getD i [] ∈ m := by
  have hl : i < m.length := by rw [h.1]; exact hi
  have e : m.getD i [] = m[i] := by simp [hl]
  rw [e]
  exact ⟨h.2 _ (List.getElem_mem _), List.getElem_mem _⟩
theorem twT_sq {n : Nat} {A X : List (List Rat)} (hA : Sq n A) (hX : Sq n X) : Sq (n + n) (twT n A X) := by
  refine ⟨by simp [twT], fun l m => ?_⟩
  rcases List.mem_append.mp m with m | m
  · obtain ⟨i, hi, rfl⟩ := List.mem_map.mp m
    have hi : i < n := by simpa using hi
    rw [List.length_append, (hA.at_ hi).1, (hX.at_ hi).1]
  · obtain ⟨i, hi, rfl⟩ := List.mem_map.mp m
    have hi : i < n := by simpa using hi
    rw [List.length_append, zeroR_len, (hA.at_ hi).1]
theorem twT_dg {N d n : Nat} (hN : 0 < N) {A X : List (List Rat)} (hA : Sq n A) (hX : Sq n X) (dA : ∀ l ∈ A, ∀ x ∈ l, Dg N d x) (dX : ∀ l ∈ X, ∀ x ∈ l, Dg N d x) : ∀ l ∈ twT n A X, ∀ x ∈ l, Dg N d x := fun l m x mx => by
  rcases List.mem_append.mp m with m | m
  · obtain ⟨i, hi, rfl⟩ := List.mem_map.mp m
    have hi : i < n := by simpa using hi
    rcases List.mem_append.mp mx with mx | mx
    · exact dA _ (hA.at_ hi).2 x mx
    · exact dX _ (hX.at_ hi).2 x mx
  · obtain ⟨i, hi, rfl⟩ := List.mem_map.mp m
    have hi : i < n := by simpa using hi
    rcases List.mem_append.mp mx with mx | mx
    · exact zeroR_dg hN x mx
    · exact dA _ (hA.at_ hi).2 x mx
theorem twT_at1 {n i j : Nat} {A X : List (List Rat)} (hA : Sq n A) (hi : i < n) (hj : j < n) : ((twT n A X).getD i []).getD j 0 = (A.getD i []).getD j 0 := by
  unfold twT
  rw [app_l (n := n) (by simp) hi, map_at hi, app_l (hA.at_ hi).1 hj]
theorem twT_at2 {n i j : Nat} {A X : List (List Rat)} (hA : Sq n A) (hi : i < n) : ((twT n A X).getD i []).getD (n + j) 0 = (X.getD i []).getD j 0 := by
  unfold twT
  rw [app_l (n := n) (by simp) hi, map_at hi, app_r (hA.at_ hi).1]
theorem twT_at3 {n i j : Nat} {A X : List (List Rat)} (hi : i < n) (hj : j < n) : ((twT n A X).getD (n + i) []).getD j 0 = 0 := by
  unfold twT
  rw [app_r (n := n) (by simp), map_at hi, app_l zeroR_len hj, zeroR_getD]
theorem twT_at4 {n i j : Nat} {A X : List (List Rat)} (hi : i < n) : ((twT n A X).getD (n + i) []).getD (n + j) 0 = (A.getD i []).getD j 0 := by
  unfold twT
  rw [app_r (n := n) (by simp), map_at hi, app_r zeroR_len]
def addR (n : Nat) (r s : List Rat) : List Rat := (List.range n).map fun i => r.getD i 0 + s.getD i 0
theorem addR_len {n : Nat} {r s : List Rat} : (addR n r s).length = n := by simp [addR]
theorem rowBy_tw {n : Nat} (h1 : 1 ≤ n) {A X : List (List Rat)} (hA : Sq n A) (hX : Sq n X) {t b : List Rat} (ht : t.length = n) (hb : b.length = n) : rowBy (t ++ b) (twT n A X) = rowBy t A ++ addR n (rowBy t X) (rowBy b A) := by
  have R := (twT_sq hA hX).rect (by omega)
  have RA := hA.rect h1
  have RX := hX.rect h1
  refine row_ext (rowBy_len R) (by rw [List.length_append, rowBy_len RA, addR_len]) fun j hj => ?_
  rw [rowBy_getD R (by rw [List.length_append, ht, hb, (twT_sq hA hX).1]) hj, (twT_sq hA hX).1, Sm_split]
  by_cases hjn : j < n
  · rw [app_l (rowBy_len RA) hjn, rowBy_getD RA (by rw [ht, hA.1]) hjn, hA.1]
    have e2 : Sm n (fun i => (t ++ b).getD (n + i) 0 * ((twT n A X).getD (n + i) []).getD j 0) = 0 := by
      refine Eq.trans (Sm_congr fun i hi => ?_) (Sm_zero (n := n))
      rw [twT_at3 hi hjn, Rat.mul_zero]
    rw [e2, Rat.add_zero]
    exact Sm_congr fun i hi => by rw [app_l ht hi, twT_at1 hA hi hjn]
  · obtain ⟨k, rfl⟩ : ∃ k, j = n + k := ⟨j - n, by omega⟩
    have hk : k < n := by omega
    rw [app_r (rowBy_len RA)]
    unfold addR
    rw [map_at hk, rowBy_getD RX (by rw [ht, hX.1]) hk, rowBy_getD RA (by rw [hb, hA.1]) hk, hA.1, hX.1]
    congr 1
    · exact Sm_congr fun i hi => by rw [app_l ht hi, twT_at2 hA hi]
    · exact Sm_congr fun i hi => by rw [app_r ht, twT_at4 hi]
/-- the place of a letter -/
def ixL (M : Mach) (a : Nat) : Nat := M.letters.findIdx (· == a)
theorem ixL_lt {M : Mach} {a : Nat} (ha : a ∈ M.letters) : ixL M a < M.letters.length := List.findIdx_lt_length_of_exists ⟨a, ha, by simp⟩
theorem tw_tab {M : Mach} {n a : Nat} {second : List Rat} {across : List (List (List Rat))} (ha : a ∈ M.letters) : (twM M n second across).tab a = twT n (M.tab a) (across.getD (ixL M a) []) := by
  show ((List.range M.letters.length).map fun t => twT n (M.steps.getD t []) (across.getD t [])).getD (ixL M a) [] = _
  rw [map_at (ixL_lt ha)]
  rfl
/-- what crosses -/
def gW (M : Mach) (across : List (List (List Rat))) : List Rat → List Nat → Rat
  | _, [] => 0
  | t, a :: w => gW M across (rowBy t (M.tab a)) w + fromR M (rowBy t (across.getD (ixL M a) [])) w
section
variable {N d n : Nat} {M : Mach}
theorem tab_sq (K : Mc N d n M) {a : Nat} (ha : a ∈ M.letters) : Sq n (M.tab a) := K.tb _ (K.tab_mem ha)
theorem tw_from (K : Mc N d n M) {second : List Rat} {across : List (List (List Rat))} (hX : ∀ a ∈ M.letters, Sq n (across.getD (ixL M a) [])) : ∀ (w : List Nat) (t b : List Rat), (∀ a ∈ w, a ∈ M.letters) → t.length = n → b.length = n → fromR (twM M n second across) (t ++ b) w = fromR M b w + gW M across t w
  | [], t, b, _, ht, hb => by
    show dot (t ++ b) (zeroR n ++ M.fin) = dot b M.fin + 0
    rw [dot_Sm (n := n + n) (by rw [List.length_append, ht, hb]) (by rw [List.length_append, zeroR_len, K.lf]), Sm_split, Rat.add_zero, dot_Sm hb K.lf]
    have e1 : Sm n (fun i => (t ++ b).getD i 0 * (zeroR n ++ M.fin).getD i 0) = 0 := by
      refine Eq.trans (Sm_congr fun i hi => ?_) (Sm_zero (n := n))
      rw [app_l (o := M.fin) zeroR_len hi, zeroR_getD, Rat.mul_zero]
    rw [e1, Rat.zero_add]
    exact Sm_congr fun i hi => by rw [app_r ht, app_r zeroR_len]
  | a :: w, t, b, hw, ht, hb => by
    have ha := hw a (by simp)
    have hA := tab_sq K ha
    have hX' := hX a ha
    have n1 := K.n1
    rw [from_cons, tw_tab ha, rowBy_tw n1 hA hX' ht hb, tw_from K hX w _ _ (fun b m => hw b (by simp [m])) (rowBy_len (hA.rect n1)) addR_len]
    have e : fromR M (addR n (rowBy t (across.getD (ixL M a) [])) (rowBy b (M.tab a))) w = fromR M (rowBy t (across.getD (ixL M a) [])) w + fromR M (rowBy b (M.tab a)) w :=
      from_add K (fun b m => hw b (by simp [m])) addR_len (rowBy_len (hX'.rect n1)) (rowBy_len (hA.rect n1)) (fun i hi => by unfold addR; rw [map_at hi])
    rw [e, from_cons]
    show _ = fromR M (rowBy b (M.tab a)) w + (gW M across (rowBy t (M.tab a)) w + fromR M (rowBy t (across.getD (ixL M a) [])) w)
    grind
theorem tw_ok (K : Mc N d n M) (hN : 0 < N) (hn : n + n ≤ 64) {e : Nat} (he : d ≤ e) {second : List Rat} {across : List (List (List Rat))} (hs : second.length = n) (ds : ∀ x ∈ second, Dg N e x) (hX : ∀ t, t < M.letters.length → Sq n (across.getD t []) ∧ ∀ l ∈ across.getD t [], ∀ x ∈ l, Dg N e x) : Mc N e (n + n) (twM M n second across) where
  n1 := by have := K.n1; omega
  n2 := hn
  ls := by show (M.start ++ second).length = _; rw [List.length_append, K.ls, hs]
  lf := by show (zeroR n ++ M.fin).length = _; rw [List.length_append, zeroR_len, K.lf]
  lt := by simp [twM]
  tb := fun t m => by
    obtain ⟨i, hi, rfl⟩ := List.mem_map.mp m
    have hi : i < M.letters.length := by simpa using hi
    have hS : Sq n (M.steps.getD i []) := by
      have h2 : i < M.steps.length := by rw [K.lt]; exact hi
      have : M.steps.getD i [] = M.steps[i] := by simp [h2]
      rw [this]
      exact K.tb _ (List.getElem_mem _)
    exact twT_sq hS (hX i hi).1
  nd := K.nd
  ll := K.ll
  ds := fun x m => by
    rcases List.mem_append.mp m with m | m
    · exact (K.ds x m).mono hN he
    · exact ds x m
  df := fun x m => by
    rcases List.mem_append.mp m with m | m
    · exact zeroR_dg hN x m
    · exact (K.df x m).mono hN he
  dt := fun t m => by
    obtain ⟨i, hi, rfl⟩ := List.mem_map.mp m
    have hi : i < M.letters.length := by simpa using hi
    have h2 : i < M.steps.length := by rw [K.lt]; exact hi
    have e1 : M.steps.getD i [] = M.steps[i] := by simp [h2]
    have hS : Sq n (M.steps.getD i []) := by
      rw [e1]
      exact K.tb _ (List.getElem_mem _)
    exact twT_dg hN hS (hX i hi).1 (fun l ml x mx => (K.dt _ (by rw [e1]; exact List.getElem_mem _) l ml x mx).mono hN he) (hX i hi).2
end
/-- tables mixed -/
def mixM (fs : List Rat) (ts : List (List (List Rat))) (n : Nat) : List (List Rat) := (List.range n).map fun i => (List.range n).map fun j => Sm ts.length fun k => fs.getD k 0 * ((ts.getD k []).getD i []).getD j 0
theorem mixM_sq {fs : List Rat} {ts : List (List (List Rat))} {n : Nat} : Sq n (mixM fs ts n) := ⟨by simp [mixM], fun l m => by
  obtain ⟨i, _, rfl⟩ := List.mem_map.mp m
  simp⟩
theorem mixM_at {fs : List Rat} {ts : List (List (List Rat))} {n i j : Nat} (hi : i < n) (hj : j < n) : ((mixM fs ts n).getD i []).getD j 0 = Sm ts.length fun k => fs.getD k 0 * ((ts.getD k []).getD i []).getD j 0 := by
  unfold mixM
  rw [map_at hi, map_at hj]
theorem Sm_list {α : Type} {f : α → Rat} {l : List α} (d : α) : (l.map f).sum = Sm l.length fun i => f (l.getD i d) := by
  unfold Sm
  congr 1
  exact List.ext_getElem (by simp) fun i h1 h2 => by
    have : i < l.length := by simpa using h1
    simp [this]
theorem sum_filter {α : Type} {f : α → Rat} {p : α → Bool} : ∀ l : List α, ((l.filter p).map f).sum = (l.map fun b => if p b then f b else 0).sum
  | [] => rfl
  | a :: l => by
    rw [List.filter_cons]
    by_cases h : p a = true
    · simp only [h, if_true, List.map_cons, List.sum_cons, sum_filter l]
    · simp only [h, Bool.false_eq_true, if_false, List.map_cons, List.sum_cons, sum_filter l, Rat.zero_add]
theorem ixL_at {M : Mach} (nd : M.letters.Nodup) {i : Nat} (h : i < M.letters.length) : ixL M M.letters[i] = i := by
  have h1 : M.letters[i] ∈ M.letters := List.getElem_mem _
  have h2 := ixL_lt h1
  have h3 : M.letters[ixL M M.letters[i]] = M.letters[i] := by
    have := List.findIdx_getElem (xs := M.letters) (p := (· == M.letters[i])) (w := h2)
    exact eq_of_beq this
  have pw := List.pairwise_iff_getElem.mp nd
  rcases Nat.lt_trichotomy (ixL M M.letters[i]) i with q | q | q
  · exact absurd h3 (pw _ _ h2 h q)
  · exact q
  · exact absurd h3.symm (pw _ _ h h2 q)
theorem letters_map {α : Type} {M : Mach} (nd : M.letters.Nodup) (F : Nat → α) : M.letters.map (fun b => F (ixL M b)) = (List.range M.letters.length).map F :=
  List.ext_getElem (by simp) fun i h1 h2 => by
    have : i < M.letters.length := by simpa using h1
    simp [ixL_at nd this]
theorem ixL_inj {M : Mach} {a b : Nat} (ha : a ∈ M.letters) (hb : b ∈ M.letters) (h : ixL M a = ixL M b) : a = b := by
  have g : ∀ {c : Nat} (hc : c ∈ M.letters), M.letters[ixL M c]'(ixL_lt hc) = c := fun {c} hc => by
    have := List.findIdx_getElem (xs := M.letters) (p := (· == c)) (w := ixL_lt hc)
    exact eq_of_beq this
  have h1 := g ha
  have h2 := g hb
  simp only [h] at h1
  exact h1.symm.trans h2
section
variable {N d n : Nat} {M : Mach}
theorem step_sq (K : Mc N d n M) {t : Nat} (ht : t < M.letters.length) : Sq n (M.steps.getD t []) ∧ M.steps.getD t [] ∈ M.steps := by
  have h2 : t < M.steps.length := by rw [K.lt]; exact ht
  have e1 : M.steps.getD t [] = M.steps[t] := by simp [h2]
  rw [e1]
  exact ⟨K.tb _ (List.getElem_mem _), List.getElem_mem _⟩
theorem mix_from (K : Mc N d n M) {fs : List Rat} {w : List Nat} (hw : ∀ a ∈ w, a ∈ M.letters) {t : List Rat} (ht : t.length = n) : fromR M (rowBy t (mixM fs M.steps n)) w = Sm M.letters.length fun k => fs.getD k 0 * fromR M (rowBy t (M.steps.getD k [])) w := by
  have n1 := K.n1
  have R := (mixM_sq (fs := fs) (ts := M.steps) (n := n)).rect n1
  refine from_lin K hw (List.range M.letters.length) (fun k => fs.getD k 0) (fun k => rowBy t (M.steps.getD k [])) (rowBy_len R) (fun k hk => rowBy_len ((step_sq K (by simpa using hk)).1.rect n1)) fun j hj => ?_
  rw [rowBy_getD R (by rw [ht, mixM_sq.1]) hj, mixM_sq.1]
  have e1 : ∀ i, i < n → t.getD i 0 * ((mixM fs M.steps n).getD i []).getD j 0 = Sm M.letters.length fun k => fs.getD k 0 * (t.getD i 0 * ((M.steps.getD k []).getD i []).getD j 0) := fun i hi => by
    rw [mixM_at hi hj, K.lt, ← Sm_mul]
    exact Sm_congr fun k _ => by grind
  rw [Sm_congr e1, Sm_swap]
  show _ = Sm M.letters.length _
  refine Sm_congr fun k hk => ?_
  have S := (step_sq K hk).1
  rw [Sm_mul, rowBy_getD (S.rect n1) (by rw [ht, S.1]) hj, S.1]
theorem rowBy_assoc (h1 : 1 ≤ n) {A B : List (List Rat)} (hA : Sq n A) (hB : Sq n B) {t : List Rat} (ht : t.length = n) : Sq n (A.map fun l => rowBy l B) ∧ rowBy t (A.map fun l => rowBy l B) = rowBy (rowBy t A) B := by
  have RA := hA.rect h1
  have RB := hB.rect h1
  have S : Sq n (A.map fun l => rowBy l B) := ⟨by simp [hA.1], fun l m => by
    obtain ⟨x, _, rfl⟩ := List.mem_map.mp m
    exact rowBy_len RB⟩
  refine ⟨S, row_ext (rowBy_len (S.rect h1)) (rowBy_len RB) fun j hj => ?_⟩
  rw [rowBy_getD (S.rect h1) (by rw [ht, S.1]) hj, S.1, rowBy_getD RB (by rw [rowBy_len RA, hB.1]) hj, hB.1]
  have e1 : ∀ i, i < n → t.getD i 0 * ((A.map fun l => rowBy l B).getD i []).getD j 0 = Sm n fun k => t.getD i 0 * (A.getD i []).getD k 0 * (B.getD k []).getD j 0 := fun i hi => by
    have hl : i < A.length := by rw [hA.1]; exact hi
    have e : (A.map fun l => rowBy l B).getD i [] = rowBy (A.getD i []) B := by simp [hl]
    rw [e, rowBy_getD RB (by rw [(hA.at_ hi).1, hB.1]) hj, hB.1, ← Sm_mul]
    exact Sm_congr fun k _ => by grind
  rw [Sm_congr e1, Sm_swap]
  refine Sm_congr fun k hk => ?_
  rw [Sm_mulr, rowBy_getD RA (by rw [ht, hA.1]) hk, hA.1]
/-- left out -/
def acI (M : Mach) (n : Nat) : List (List (List Rat)) := (List.range M.letters.length).map fun _ => eyeM n
def outS (M : Mach) (t : List Rat) (w : List Nat) : Rat := Sm w.length fun k => fromR M t (w.take k ++ w.drop (k + 1))
theorem g_out (K : Mc N d n M) : ∀ (w : List Nat) (t : List Rat), (∀ a ∈ w, a ∈ M.letters) → t.length = n → gW M (acI M n) t w = outS M t w
  | [], t, _, _ => rfl
  | a :: w, t, hw, ht => by
    have ha := hw a (by simp)
    have n1 := K.n1
    have e : (acI M n).getD (ixL M a) [] = eyeM n := by unfold acI; rw [map_at (ixL_lt ha)]
    show gW M (acI M n) (rowBy t (M.tab a)) w + fromR M (rowBy t ((acI M n).getD (ixL M a) [])) w = _
    rw [e, rowBy_eye n1 ht, g_out K w _ (fun b m => hw b (by simp [m])) (rowBy_len ((tab_sq K ha).rect n1))]
    unfold outS
    rw [List.length_cons, Sm_head, Rat.add_comm]
    rfl
/-- exchanged -/
def facs (K t : Nat) : List Rat := (List.range K).map fun k => (((if k = t then 0 else 1 : Nat) : Int) : Rat)
def acO (M : Mach) (n : Nat) : List (List (List Rat)) := (List.range M.letters.length).map fun t => mixM (facs M.letters.length t) M.steps n
def othS (M : Mach) (t : List Rat) (w : List Nat) : Rat := Sm w.length fun k => ((M.letters.filter fun b => decide (b ≠ w.getD k 0)).map fun b => fromR M t (w.take k ++ b :: w.drop (k + 1))).sum
theorem g_oth (K : Mc N d n M) : ∀ (w : List Nat) (t : List Rat), (∀ a ∈ w, a ∈ M.letters) → t.length = n → gW M (acO M n) t w = othS M t w
  | [], t, _, _ => rfl
  | a :: w, t, hw, ht => by
    have ha := hw a (by simp)
    have n1 := K.n1
    have e : (acO M n).getD (ixL M a) [] = mixM (facs M.letters.length (ixL M a)) M.steps n := by unfold acO; rw [map_at (ixL_lt ha)]
    show gW M (acO M n) (rowBy t (M.tab a)) w + fromR M (rowBy t ((acO M n).getD (ixL M a) [])) w = _
    rw [e, mix_from K (fun b m => hw b (by simp [m])) ht, g_oth K w _ (fun b m => hw b (by simp [m])) (rowBy_len ((tab_sq K ha).rect n1))]
    have e2 : (Sm M.letters.length fun k => (facs M.letters.length (ixL M a)).getD k 0 * fromR M (rowBy t (M.steps.getD k [])) w) = ((M.letters.filter fun b => decide (b ≠ a)).map fun b => fromR M t (b :: w)).sum := by
      rw [sum_filter]
      unfold Sm
      rw [← letters_map K.nd fun k => (facs M.letters.length (ixL M a)).getD k 0 * fromR M (rowBy t (M.steps.getD k [])) w]
      congr 1
      refine List.map_congr_left fun b hb => ?_
      have hf : (facs M.letters.length (ixL M a)).getD (ixL M b) 0 = if b = a then 0 else 1 := by
        unfold facs
        rw [map_at (ixL_lt hb)]
        by_cases h : b = a
        · subst h; simp
        · have : ¬ ixL M b = ixL M a := fun q => h (ixL_inj hb ha q)
          rw [if_neg this, if_neg h]; rfl
      rw [hf, from_cons]
      show (if b = a then (0 : Rat) else 1) * fromR M (rowBy t (M.tab b)) w = _
      by_cases h : b = a
      · simp [h, Rat.zero_mul]
      · simp [h, Rat.one_mul]
    rw [e2]
    unfold othS
    rw [List.length_cons, Sm_head, Rat.add_comm]
    rfl
/-- put in -/
def tog (M : Mach) (n : Nat) : List (List Rat) := mixM (M.letters.map fun _ => 1) M.steps n
def acN (M : Mach) (n : Nat) : List (List (List Rat)) := M.steps.map fun A => A.map fun l => rowBy l (tog M n)
def inS (M : Mach) (t : List Rat) (w : List Nat) : Rat := Sm (w.length + 1) fun k => (M.letters.map fun b => fromR M t (w.take k ++ b :: w.drop k)).sum
theorem tog_from (K : Mc N d n M) {w : List Nat} (hw : ∀ a ∈ w, a ∈ M.letters) {t : List Rat} (ht : t.length = n) : fromR M (rowBy t (tog M n)) w = (M.letters.map fun b => fromR M t (b :: w)).sum := by
  unfold tog
  rw [mix_from K hw ht]
  unfold Sm
  rw [← letters_map K.nd fun k => (M.letters.map fun _ => (1 : Rat)).getD k 0 * fromR M (rowBy t (M.steps.getD k [])) w]
  congr 1
  refine List.map_congr_left fun b hb => ?_
  have : (M.letters.map fun _ => (1 : Rat)).getD (ixL M b) 0 = 1 := by simp [ixL_lt hb]
  rw [this, Rat.one_mul]
  rfl
theorem g_in (K : Mc N d n M) : ∀ (w : List Nat) (t : List Rat), (∀ a ∈ w, a ∈ M.letters) → t.length = n → fromR M (rowBy t (tog M n)) w + gW M (acN M n) t w = inS M t w
  | [], t, _, ht => by
    rw [tog_from K (by simp) ht]
    show _ + 0 = _
    rw [Rat.add_zero]
    unfold inS
    simp [Sm, Rat.add_zero]
  | a :: w, t, hw, ht => by
    have ha := hw a (by simp)
    have n1 := K.n1
    have S := tab_sq K ha
    have hi : ixL M a < M.steps.length := by rw [K.lt]; exact ixL_lt ha
    have e : (acN M n).getD (ixL M a) [] = (M.tab a).map fun l => rowBy l (tog M n) := by
      have e1 : M.tab a = M.steps[ixL M a] := by
        show M.steps.getD (ixL M a) [] = _
        simp [hi]
      rw [e1]
      simp [acN, hi]
    have as := rowBy_assoc n1 S (mixM_sq (fs := M.letters.map fun _ => 1) (ts := M.steps) (n := n)) ht
    have ih := g_in K w (rowBy t (M.tab a)) (fun b m => hw b (by simp [m])) (rowBy_len (S.rect n1))
    show fromR M (rowBy t (tog M n)) (a :: w) + (gW M (acN M n) (rowBy t (M.tab a)) w + fromR M (rowBy t ((acN M n).getD (ixL M a) [])) w) = _
    rw [e, show rowBy t ((M.tab a).map fun l => rowBy l (tog M n)) = rowBy (rowBy t (M.tab a)) (tog M n) from as.2, tog_from K hw ht]
    unfold inS at ih ⊢
    rw [List.length_cons, Sm_head]
    have e3 : (Sm (w.length + 1) fun i => (M.letters.map fun b => fromR M t ((a :: w).take (i + 1) ++ b :: (a :: w).drop (i + 1))).sum) = Sm (w.length + 1) fun k => (M.letters.map fun b => fromR M (rowBy t (M.tab a)) (w.take k ++ b :: w.drop k)).sum := rfl
    rw [e3, ← ih]
    show _ = (M.letters.map fun b => fromR M t (b :: a :: w)).sum + _
    grind
theorem zero_from (K : Mc N d n M) {w : List Nat} (hw : ∀ a ∈ w, a ∈ M.letters) : fromR M (zeroR n) w = 0 :=
  from_lin K hw ([] : List Nat) (fun _ => 0) (fun _ => []) zeroR_len (fun a m => by cases m) (fun i _ => zeroR_getD)
end
end Ev
namespace Ev
open PySem (sizeLine)
theorem pSs_app {G : List Nat → Option T} {C : List Nat → List T → Option T} : ∀ {xs ys : List Ev.S} {p : PE}, pSs G C (xs ++ ys) p = (pSs G C xs p).bind fun f => f.seq (pSs G C ys)
  | [], ys, p => by simp
  | x :: xs, ys, p => by
    rw [List.cons_append, pSs_cons, pSs_cons]
    cases h : pS G C x p with
    | none => rfl
    | some f =>
      cases f with
      | nx p' => simp only [Option.bind_some, pseq_nx]; exact pSs_app
      | _ => rfl
section
variable {G : List Nat → Option T} {C : List Nat → List T → Option T}
/-- a loop over numbers that puts so much behind a list in each turn -/
theorem for_flat {σ : Type} {tg : Nat} {body : List S} {n : Nat} (g : Nat → List T) (fr : List T → σ → PE) (hstep : ∀ k s, k < n → ∃ s', (pbind (.nm tg) (.int (k : Nat)) (fr ((List.range k).flatMap g) s)).bind (pSs G C body) = some (.nx (fr ((List.range k).flatMap g ++ g k) s'))) (s0 : σ) :
    ∃ s', forP (fun x p => pbind (.nm tg) x p) (pSs G C body) ((List.range n).map fun i => T.int (i : Nat)) (fr [] s0) = some (.nx (fr ((List.range n).flatMap g) s')) := by
  have key : ∀ (m k : Nat) (s : σ), k + m = n → ∃ s', forP (fun x p => pbind (.nm tg) x p) (pSs G C body) ((List.range' k m).map fun i => T.int (i : Nat)) (fr ((List.range k).flatMap g) s) = some (.nx (fr ((List.range n).flatMap g) s')) := by
    intro m
    induction m with
    | zero => intro k s h; exact ⟨s, by simp at h; subst h; simp⟩
    | succ m ih =>
      intro k s h
      obtain ⟨s1, e1⟩ := hstep k s (by omega)
      obtain ⟨p1, e2, e3⟩ := obind e1
      obtain ⟨s2, e4⟩ := ih (k + 1) s1 (by omega)
      refine ⟨s2, ?_⟩
      rw [List.range'_succ, List.map_cons, forP_cons, e2, Option.bind_some, e3, Option.bind_some]
      have e5 : (List.range (k + 1)).flatMap g = (List.range k).flatMap g ++ g k := by rw [List.range_succ]; simp
      rw [← e5]
      exact e4
  obtain ⟨s', e⟩ := key n 0 s0 (by omega)
  refine ⟨s', ?_⟩
  have z : (List.range n).map (fun i => T.int (i : Nat)) = (List.range' 0 n).map fun i => T.int (i : Nat) := by rw [List.range_eq_range']
  rw [z]
  exact e
theorem for_build {σ : Type} {tg : Nat} {body : List S} {n : Nat} (g : Nat → T) (fr : List T → σ → PE) (hstep : ∀ k s, k < n → ∃ s', (pbind (.nm tg) (.int (k : Nat)) (fr ((List.range k).map g) s)).bind (pSs G C body) = some (.nx (fr ((List.range k).map g ++ [g k]) s'))) (s0 : σ) :
    ∃ s', forP (fun x p => pbind (.nm tg) x p) (pSs G C body) ((List.range n).map fun i => T.int (i : Nat)) (fr [] s0) = some (.nx (fr ((List.range n).map g) s')) := by
  have e : ∀ k, (List.range k).flatMap (fun i => [g i]) = (List.range k).map g := fun k => by
    induction k with
    | zero => rfl
    | succ k ih => rw [List.range_succ, List.flatMap_append, ih]; simp
  obtain ⟨s', h⟩ := for_flat (G := G) (C := C) (tg := tg) (body := body) (n := n) (fun i => [g i]) fr (fun k s hk => by rw [e]; exact hstep k s hk) s0
  exact ⟨s', by rw [e] at h; exact h⟩
end
theorem tabs_atI {ts : List (List (List Rat))} {t : Nat} (h : t < ts.length) : L2.atI (ts.map tabT) (t : Int) = some (tabT (ts.getD t [])) := by
  rw [atI_ofNat]; simp [h]
theorem tab_atI {m : List (List Rat)} {i : Nat} (h : i < m.length) : L2.atI (m.map rowT) (i : Int) = some (rowT (m.getD i [])) := by
  rw [atI_ofNat]; simp [h]
theorem Sm_dg {N d n : Nat} (hN : 0 < N) (hn : n ≤ 64) {f : Nat → Rat} (h : ∀ i, i < n → Dg N d (f i)) : Dg N (d + 1) (Sm n f) := by
  unfold Sm
  exact sum_dg hN (fun x m => by
    obtain ⟨i, hi, rfl⟩ := List.mem_map.mp m
    exact h i (by simpa using hi)) (by simpa using hn)
theorem getD_dg {N d : Nat} {r : List Rat} (h : ∀ x ∈ r, Dg N d x) (i : Nat) : Dg N d (r.getD i 0) := by
  by_cases hi : i < r.length
  · have : r.getD i 0 = r[i] := by simp [hi]
    rw [this]; exact h _ (List.getElem_mem _)
  · have : r.getD i 0 = 0 := by simp [hi]
    rw [this]; exact zero_dg
theorem mixM_dg {N d n : Nat} (hN : 0 < N) {fs : List Rat} {ts : List (List (List Rat))} (hl : ts.length ≤ 64) {e : Nat} (df : ∀ x ∈ fs, Dg N e x) (dt : ∀ t ∈ ts, ∀ l ∈ t, ∀ x ∈ l, Dg N d x) : ∀ l ∈ mixM fs ts n, ∀ x ∈ l, Dg N (e + d + 1) x := fun l ml x mx => by
  obtain ⟨i, _, rfl⟩ := List.mem_map.mp ml
  obtain ⟨j, _, rfl⟩ := List.mem_map.mp mx
  refine Sm_dg hN hl fun k hk => ?_
  have ee : ts.getD k [] = ts[k] := by simp [hk]
  have h2 : ∀ x ∈ (ts.getD k []).getD i [], Dg N d x := fun x hx => by
    rw [ee] at hx
    by_cases hi : i < ts[k].length
    · have e2 : ts[k].getD i [] = ts[k][i] := by simp [hi]
      rw [e2] at hx
      exact dt _ (List.getElem_mem _) _ (List.getElem_mem _) x hx
    · have e2 : ts[k].getD i [] = [] := by simp [hi]
      rw [e2] at hx
      cases hx
  exact (getD_dg df k).mul (getD_dg h2 j)
def f_mix : Fn := ⟨3, 7, [.set 3 (.lst []), .for_ (.nm 4) (.rng [.var 2]) [.app 3 [] (.lc (.call n__law_total [.lc (.call n__law_times [.ix (.var 1) (.var 6), .ix (.ix (.ix (.var 0) (.var 6)) (.var 4)) (.var 5)]) (.nm 6) (.rng [.blt .len [.var 0]]) [] [6]]) (.nm 5) (.rng [.var 2]) [] [5])], .ret (.mov 3)]⟩
section
variable {G : List Nat → Option T} {F : List Nat → Option Fn} {N d n : Nat} {M : Mach}
theorem run_mixed {f : List Nat} (hf : F f = some f_mix) (L : LFr F) (ht : F n__law_total = some f__law_total) (hN : 0 < N) (hN2 : N ≤ 64) (K : Mc N d n M) {e : Nat} (hd : 12 * (2 * (e + d) + 1) + 2 ≤ 600) {fs : List Rat} (hl : fs.length = M.letters.length) (df : ∀ x ∈ fs, Dg N e x) (q : Nat) : runP G F (q + 5) f [.lst (M.steps.map tabT), rowT fs, .int (n : Nat)] = some (tabT (mixM fs M.steps n)) := by
  have n2 := K.n2
  have l2 := K.ll
  have hrn := rng_n (n := n) (by omega)
  have hrk := rng_n (n := M.steps.length) (by rw [K.lt]; omega)
  have inner : ∀ i j, i < n → j < n → ∀ s3 s6, (pden G (runP G F (q + 4)) (.lc (.call n__law_times [.ix (.var 1) (.var 6), .ix (.ix (.ix (.var 0) (.var 6)) (.var 4)) (.var 5)]) (.nm 6) (.rng [.blt .len [.var 0]]) [] [6])).v [some (.lst (M.steps.map tabT)), some (rowT fs), some (.int (n : Nat)), s3, some (.int (i : Nat)), some (.int (j : Nat)), s6] = some (rowT ((List.range M.steps.length).map fun k => fs.getD k 0 * ((M.steps.getD k []).getD i []).getD j 0)) := by
    intro i j hi hj s3 s6
    rw [pv_lc_all (l := List.range M.steps.length) (fun i => T.int (i : Nat)) (fun k => fr (fs.getD k 0 * ((M.steps.getD k []).getD i []).getD j 0)) (by simp [hrk]) (fun k hk => by
      have hk : k < M.steps.length := by simpa using hk
      have hk2 : k < M.letters.length := by rw [← K.lt]; exact hk
      have S := step_sq K hk2
      have hi2 := S.1.at_ hi
      have a1 := row_at (l := fs) (j := k) (by rw [hl]; exact hk2)
      have a2 := tabs_atI hk
      have a3 := tab_atI (m := M.steps.getD k []) (i := i) (by rw [S.1.1]; exact hi)
      have a4 := row_at (l := (M.steps.getD k []).getD i []) (j := j) (by rw [hi2.1]; exact hj)
      have t1 := ltimes L hN hN2 (G := G) (getD_dg df k) (getD_dg (K.dt _ S.2 _ hi2.2) j) (by omega) (q + 1)
      generalize M.steps.map tabT = MS at a2 ⊢
      generalize (M.steps.getD k []).getD i [] = r at a3 a4 t1 ⊢
      generalize M.steps.getD k [] = tb at a2 a3 ⊢
      simp [rowT, -atI_ofNat, -List.getD_eq_getElem?_getD, a1, a2, tabT, a3, a4, t1]) (by simp; rw [K.lt]; omega)]
    simp [rowT]
  have row : ∀ i, i < n → ∀ s3 s5 s6, (pden G (runP G F (q + 4)) (.lc (.call n__law_total [.lc (.call n__law_times [.ix (.var 1) (.var 6), .ix (.ix (.ix (.var 0) (.var 6)) (.var 4)) (.var 5)]) (.nm 6) (.rng [.blt .len [.var 0]]) [] [6]]) (.nm 5) (.rng [.var 2]) [] [5])).v [some (.lst (M.steps.map tabT)), some (rowT fs), some (.int (n : Nat)), s3, some (.int (i : Nat)), s5, s6] = some (rowT ((List.range n).map fun j => Sm M.steps.length fun k => fs.getD k 0 * ((M.steps.getD k []).getD i []).getD j 0)) := by
    intro i hi s3 s5 s6
    rw [pv_lc_all (l := List.range n) (fun i => T.int (i : Nat)) (fun j => fr (Sm M.steps.length fun k => fs.getD k 0 * ((M.steps.getD k []).getD i []).getD j 0)) (by simp [hrn]) (fun j hj => by
      have hj : j < n := by simpa using hj
      have ht' := ltotal (G := G) L ht hN hN2 (d := e + d) hd (xs := (List.range M.steps.length).map fun k => fs.getD k 0 * ((M.steps.getD k []).getD i []).getD j 0) (fun x m => by
        obtain ⟨k, hk, rfl⟩ := List.mem_map.mp m
        have hk : k < M.steps.length := by simpa using hk
        have hk2 : k < M.letters.length := by rw [← K.lt]; exact hk
        have S := step_sq K hk2
        exact (getD_dg df k).mul (getD_dg (K.dt _ S.2 _ (S.1.at_ hi).2) j)) (by simp; rw [K.lt]; omega) q
      simp [-pv_lc, -List.getD_eq_getElem?_getD, inner i j hi hj, ht']
      rfl) (by simp; omega)]
    simp [rowT]
  obtain ⟨s', ef⟩ := for_build (G := G) (C := runP G F (q + 4)) (σ := Option T) (tg := 4) (body := [.app 3 [] (.lc (.call n__law_total [.lc (.call n__law_times [.ix (.var 1) (.var 6), .ix (.ix (.ix (.var 0) (.var 6)) (.var 4)) (.var 5)]) (.nm 6) (.rng [.blt .len [.var 0]]) [] [6]]) (.nm 5) (.rng [.var 2]) [] [5])]) (n := n)
    (fun i => rowT ((List.range n).map fun j => Sm M.steps.length fun k => fs.getD k 0 * ((M.steps.getD k []).getD i []).getD j 0)) (fun acc s => [some (.lst (M.steps.map tabT)), some (rowT fs), some (.int (n : Nat)), some (.lst acc), s, none, none]) (fun k s hk => by
      have hz : k < sizeLine := lt_size (by omega)
      refine ⟨some (.int (k : Nat)), ?_⟩
      simp [-pv_lc, row k hk, hz]) none
  rw [show q + 5 = (q + 4) + 1 from rfl, runP1 hf _ _ rfl]
  have em : tabT (mixM fs M.steps n) = .lst ((List.range n).map fun i => rowT ((List.range n).map fun j => Sm M.steps.length fun k => fs.getD k 0 * ((M.steps.getD k []).getD i []).getD j 0)) := by
    simp [tabT, mixM]
  rw [em]
  simp only [pbind_nm] at ef
  generalize ((List.range n).map fun i => rowT ((List.range n).map fun j => Sm M.steps.length fun k => fs.getD k 0 * ((M.steps.getD k []).getD i []).getD j 0)) = LL at ef ⊢
  simp [f_mix, -pv_lc, hrn, ef]
end
end Ev
namespace Ev
open PySem (sizeLine)
theorem zmul {x : T} {n : Nat} (h : n ≤ 1000) : binV .mul (.lst [x]) (.int (n : Nat)) = some (.lst (List.replicate n x)) := by
  have h1 : ((n : Int)).natAbs < 2 ^ 63 := by simp; omega
  have h2 : [x].length * ((n : Int)).toNat ≤ sizeLine := le_size (by simp; omega)
  simp only [binV, if_pos (And.intro h1 h2)]
  simp
theorem map_range {α β : Type} {f : α → β} {l : List α} {n : Nat} (d : α) (h : l.length = n) : l.map f = (List.range n).map fun i => f (l.getD i d) :=
  List.ext_getElem (by simp [h]) fun i h1 h2 => by
    have : i < l.length := by simpa using h1
    simp [this]
theorem zip_range {α β γ : Type} {f : α × β → γ} {l : List α} {m : List β} {n : Nat} (d : α) (e : β) (h1 : l.length = n) (h2 : m.length = n) : (l.zip m).map f = (List.range n).map fun i => f (l.getD i d, m.getD i e) := by
  rw [map_range (n := n) (d, e) (by simp [h1, h2])]
  refine List.map_congr_left fun i hi => ?_
  have hi : i < n := by simpa using hi
  have a1 : i < l.length := by omega
  have a2 : i < m.length := by omega
  have a3 : i < (l.zip m).length := by simp; omega
  have e3 : (l.zip m).getD i (d, e) = (l[i], m[i]) := by
    rw [List.getD_eq_getElem?_getD, List.getElem?_eq_getElem a3]
    simp
  rw [e3]
  simp [a1, a2]
/-- rows added place by place -/
def addAll (n : Nat) (rs : List (List Rat)) : List Rat := (List.range n).map fun j => (rs.map (·.getD j 0)).sum
theorem fold_add {n : Nat} : ∀ (rs : List (List Rat)) (acc : List Rat), acc.length = n → (rs.foldl (addR n) acc).length = n ∧ ∀ j, j < n → (rs.foldl (addR n) acc).getD j 0 = acc.getD j 0 + (rs.map (·.getD j 0)).sum
  | [], acc, h => ⟨h, fun j _ => by simp [Rat.add_zero]⟩
  | r :: rs, acc, h => by
    obtain ⟨h1, h2⟩ := fold_add rs (addR n acc r) addR_len
    refine ⟨h1, fun j hj => ?_⟩
    rw [List.foldl_cons, h2 j hj]
    unfold addR
    rw [map_at hj, List.map_cons, List.sum_cons]
    grind
theorem addAll_fold {n : Nat} {r : List Rat} {rs : List (List Rat)} (h : r.length = n) : rs.foldl (addR n) r = addAll n (r :: rs) := by
  obtain ⟨h1, h2⟩ := fold_add rs r h
  refine row_ext h1 (by simp [addAll]) fun j hj => ?_
  unfold addAll
  rw [h2 j hj, map_at hj, List.map_cons, List.sum_cons]
theorem sum_rows_loop {G : List Nat → Option T} {F : List Nat → Option Fn} (L : PFr F) {n d : Nat} (hd : 12 * (2 * d + 1) + 2 ≤ 9000) (hn : n ≤ 64) (s0 : Option T) (q : Nat) : ∀ (rs : List (List Rat)) (acc : List Rat) (m : Nat) (s2 : Option T), acc.length = n → (∀ x ∈ acc, DgM 12 d m x) → (∀ r ∈ rs, r.length = n ∧ ∀ x ∈ r, Dg 12 d x) → m + rs.length ≤ 64 → ∃ s2',
    forP (fun x p => pbind (.nm 2) x p) (pSs G ((runP G F (q + 2))) [.setc 1 (.call n_plus [.var 3, .var 4]) (.tp [(.nm 3), (.nm 4)]) (.zip (.mov 1) (.mov 2)) [] [3, 4]]) (rs.map rowT) [s0, some (rowT acc), s2, none, none] = some (.nx [s0, some (rowT (rs.foldl (addR n) acc)), s2', none, none])
  | [], acc, m, s2, _, _, _, _ => ⟨s2, by simp⟩
  | r :: rs, acc, m, s2, hl, ha, hr, hm => by
    have hm' : m + (rs.length + 1) ≤ 64 := hm
    have r1 := hr r (by simp)
    have e0 : (acc.zip r).map (fun p => p.1 + p.2) = addR n acc r := by
      rw [zip_range (n := n) 0 0 hl r1.1]; rfl
    have hlc : (pden G ((runP G F (q + 2))) (.lc (.call n_plus [.var 3, .var 4]) (.tp [(.nm 3), (.nm 4)]) (.zip (.mov 1) (.mov 2)) [] [3, 4])).v [s0, some (rowT acc), some (rowT r), none, none] = some (rowT (addR n acc r)) := by
      rw [pv_lc_all (l := acc.zip r) (fun p => T.tup [fr p.1, fr p.2]) (fun p => fr (p.1 + p.2)) (by simp [rowT, zip_map]) (fun p hp => by
        have hp' := List.of_mem_zip hp
        have := pplus L (G := G) (by decide) (by decide) ((ha p.1 hp'.1).up (by decide) (by omega)) (r1.2 p.2 hp'.2) (by omega) q
        simp [this]) (by simp; omega), ← e0]
      simp [rowT]
    obtain ⟨s2', ih⟩ := sum_rows_loop (G := G) L hd hn s0 q rs (addR n acc r) (m + 1) (some (rowT r)) addR_len (fun x mx => by
      rw [← e0] at mx
      obtain ⟨p, hp, rfl⟩ := List.mem_map.mp mx
      have hp' := List.of_mem_zip hp
      exact (ha p.1 hp'.1).add (r1.2 p.2 hp'.2).one) (fun x mx => hr x (by simp [mx])) (by omega)
    refine ⟨s2', ?_⟩
    rw [List.foldl_cons, ← ih, List.map_cons, forP_cons]
    simp [-pv_lc, hlc]
theorem run_sum_rows {G : List Nat → Option T} {F : List Nat → Option Fn} (L : PFr F) (hf : F n_sum_rows = some f_sum_rows) {n d : Nat} (hd : 12 * (2 * d + 1) + 2 ≤ 9000) (hn : n ≤ 64) {r : List Rat} {rs : List (List Rat)} (h0 : r.length = n ∧ ∀ x ∈ r, Dg 12 d x) (hr : ∀ r ∈ rs, r.length = n ∧ ∀ x ∈ r, Dg 12 d x) (hl : rs.length ≤ 60) (q : Nat) : (runP G F (q + 3)) n_sum_rows [.lst (rowT r :: rs.map rowT)] = some (rowT (addAll n (r :: rs))) := by
  obtain ⟨s2', e⟩ := sum_rows_loop (G := G) L hd hn (some (.lst (rowT r :: rs.map rowT))) q rs r 1 none h0.1 (fun x m => (h0.2 x m).one) hr (by omega)
  have hc : cutT (rowT r :: rs.map rowT) (some 1) none = rs.map rowT := by
    have := cut_drop (xs := rowT r :: rs.map rowT) (k := 1)
    exact this
  rw [addAll_fold h0.1] at e
  rw [show q + 3 = (q + 2) + 1 from rfl, runP1 hf _ _ rfl]
  simp only [pbind_nm] at e
  generalize rowT r = r0 at *
  generalize rs.map rowT = rr at *
  simp [f_sum_rows, -pv_lc, hc, e]
  simp [rowT]
theorem flat_len {α : Type} {g : Nat → List α} {B : Nat} (h : ∀ k, (g k).length ≤ B) : ∀ k, ((List.range k).flatMap g).length ≤ k * B
  | 0 => by simp
  | k + 1 => by
    rw [List.range_succ, List.flatMap_append, List.length_append, Nat.succ_mul]
    have := flat_len h k
    have := h k
    simp only [List.flatMap_cons, List.flatMap_nil, List.append_nil]
    omega
theorem flat_sum {g : Nat → List Rat} : ∀ n, ((List.range n).flatMap g).sum = Sm n fun k => (g k).sum
  | 0 => rfl
  | n + 1 => by
    rw [List.range_succ, List.flatMap_append, List.sum_append, flat_sum n, Sm_succ]
    simp
theorem flat_map {α β : Type} {f : α → β} {g : Nat → List α} (n : Nat) : ((List.range n).flatMap fun k => (g k).map f) = ((List.range n).flatMap g).map f := by
  rw [List.map_flatMap]
theorem str_sz {w v : List Nat} (h : w.length + v.length ≤ 100000) : w.length + v.length ≤ sizeLine := le_size h
section
variable {G : List Nat → Option T} {C : List Nat → List T → Option T}
/-- a loop that puts so much behind a list in each turn -/
theorem for_flatL {α σ : Type} {tg : Tg} {body : List S} (h : α → T) (g : α → List T) (fr : List T → σ → PE) (l : List α) (hstep : ∀ (pre : List α) (a : α) (post : List α) s, l = pre ++ a :: post → ∃ s', (pbind tg (h a) (fr (pre.flatMap g) s)).bind (pSs G C body) = some (.nx (fr (pre.flatMap g ++ g a) s'))) (s0 : σ) :
    ∃ s', forP (fun x p => pbind tg x p) (pSs G C body) (l.map h) (fr [] s0) = some (.nx (fr (l.flatMap g) s')) := by
  have key : ∀ (post pre : List α) (s : σ), l = pre ++ post → ∃ s', forP (fun x p => pbind tg x p) (pSs G C body) (post.map h) (fr (pre.flatMap g) s) = some (.nx (fr (l.flatMap g) s')) := by
    intro post
    induction post with
    | nil => intro pre s e; exact ⟨s, by simp at e; subst e; simp⟩
    | cons a post ih =>
      intro pre s e
      obtain ⟨s1, e1⟩ := hstep pre a post s e
      obtain ⟨p1, e2, e3⟩ := obind e1
      obtain ⟨s2, e4⟩ := ih (pre ++ [a]) s1 (by simp [e])
      refine ⟨s2, ?_⟩
      rw [List.map_cons, forP_cons, e2, Option.bind_some, e3, Option.bind_some]
      have e5 : (pre ++ [a]).flatMap g = pre.flatMap g ++ g a := by simp
      rw [← e5]
      exact e4
  obtain ⟨s', e⟩ := key l [] s0 (by simp)
  exact ⟨s', e⟩
end
theorem join_ones : ∀ l : List Nat, joinN [] (l.map fun c => [c]) = l
  | [] => rfl
  | [c] => rfl
  | c :: d :: l => by
    have := join_ones (d :: l)
    show [c] ++ ([] ++ joinN [] ((d :: l).map fun c => [c])) = _
    rw [this]; rfl
theorem strsV_ones : ∀ l : List Nat, strsV (l.map fun c => T.str [c]) = some (l.map fun c => [c])
  | [] => rfl
  | c :: l => by simp [strsV, strsV_ones l]
theorem meth_join {l : List Nat} (h : l.length ≤ 100000) : methV .join (.str []) [.lst (l.map fun c => T.str [c])] = some (.str l) := by
  simp only [methV, strsV_ones, Option.bind_some]
  have e : ((l.map fun c => [c]).map List.length).sum = l.length := by
    rw [List.map_map]
    have : (List.length ∘ fun c : Nat => [c]) = fun _ => 1 := rfl
    rw [this, List.map_const', List.sum_replicate_nat]
    omega
  rw [e, if_pos (by simp; omega), join_ones]
theorem words_layer {ls : List Nat} : ∀ k : Nat, (wordsUp ls k).filter (fun w => decide (w.length = k)) = layer ls k
  | 0 => rfl
  | k + 1 => by
    rw [wordsUp, List.filter_append]
    have e1 : (wordsUp ls k).filter (fun w => decide (w.length = k + 1)) = [] := by
      refine List.filter_eq_nil_iff.mpr fun w m => ?_
      have := (wordsUp_mem.mp m).1
      simp; omega
    have e2 : (layer ls (k + 1)).filter (fun w => decide (w.length = k + 1)) = layer ls (k + 1) := by
      refine List.filter_eq_self.mpr fun w m => ?_
      simp [(layer_mem.mp m).1]
    rw [e1, e2, List.nil_append]
/-- a row of a sum of rows, by a table -/
theorem rowBy_lin {α : Type} {n : Nat} {m : List (List Rat)} (R : Rect n m) (hm : m.length = n) {r : List Rat} (hr : r.length = n) (l : List α) (c : α → Rat) (u : α → List Rat) (hu : ∀ a ∈ l, (u a).length = n) (h : ∀ i, i < n → r.getD i 0 = (l.map fun a => c a * (u a).getD i 0).sum) {j : Nat} (hj : j < n) : (rowBy r m).getD j 0 = (l.map fun a => c a * (rowBy (u a) m).getD j 0).sum := by
  rw [rowBy_getD R (by rw [hr, hm]) hj, hm]
  have e1 : ∀ i, i < n → r.getD i 0 * (m.getD i []).getD j 0 = (l.map fun a => c a * ((u a).getD i 0 * (m.getD i []).getD j 0)).sum := fun i hi => by
    rw [h i hi, Rat.mul_comm, ← rs_mul]
    congr 1
    exact List.map_congr_left fun a _ => by grind
  rw [Sm_congr e1]
  unfold Sm
  rw [rs_swap]
  congr 1
  refine List.map_congr_left fun a ha => ?_
  rw [rs_mul, rowBy_getD R (by rw [hu a ha, hm]) hj, hm]
  rfl
theorem mix_row {N d n : Nat} {M : Mach} (K : Mc N d n M) {fs t : List Rat} (ht : t.length = n) {j : Nat} (hj : j < n) : (rowBy t (mixM fs M.steps n)).getD j 0 = Sm M.letters.length fun k => fs.getD k 0 * (rowBy t (M.steps.getD k [])).getD j 0 := by
  have n1 := K.n1
  have R := (mixM_sq (fs := fs) (ts := M.steps) (n := n)).rect n1
  rw [rowBy_getD R (by rw [ht, mixM_sq.1]) hj, mixM_sq.1]
  have e1 : ∀ i, i < n → t.getD i 0 * ((mixM fs M.steps n).getD i []).getD j 0 = Sm M.letters.length fun k => fs.getD k 0 * (t.getD i 0 * ((M.steps.getD k []).getD i []).getD j 0) := fun i hi => by
    rw [mixM_at hi hj, K.lt, ← Sm_mul]
    exact Sm_congr fun k _ => by grind
  rw [Sm_congr e1, Sm_swap]
  refine Sm_congr fun k hk => ?_
  have S := (step_sq K hk).1
  rw [Sm_mul, rowBy_getD (S.rect n1) (by rw [ht, S.1]) hj, S.1]
end Ev
namespace Ev
open PySem (sizeLine)
theorem DgM.mul {N d e a b : Nat} {p q : Rat} (hp : DgM N d a p) (hq : DgM N e b q) : DgM N (d + e) (a * b) (p * q) := by
  obtain ⟨z, h1, h2⟩ := hp
  obtain ⟨y, h3, h4⟩ := hq
  refine ⟨z * y, ?_, ?_⟩
  · rw [Nat.pow_add, Rat.natCast_mul, Rat.intCast_mul, ← h1, ← h3]; grind
  · rw [Int.natAbs_mul, Nat.pow_add, Nat.pow_add]
    calc _ ≤ (a * (64 ^ d * N ^ d)) * (b * (64 ^ e * N ^ e)) := Nat.mul_le_mul h2 h4
      _ = _ := by grind
theorem DgM.le {N d a b : Nat} {q : Rat} (h : DgM N d a q) (hb : a ≤ b) : DgM N d b q := by
  obtain ⟨z, h1, h2⟩ := h
  exact ⟨z, h1, Nat.le_trans h2 (Nat.mul_le_mul_right _ hb)⟩
theorem DgM.mono {N d e a : Nat} {q : Rat} (hN : 0 < N) (h : DgM N d a q) (he : d ≤ e) : DgM N e a q := by
  obtain ⟨k, rfl⟩ := Nat.exists_eq_add_of_le he
  obtain ⟨z, h1, h2⟩ := h
  refine ⟨z * (N ^ k : Nat), ?_, ?_⟩
  · rw [Nat.pow_add, Rat.natCast_mul, Rat.intCast_mul, ← h1, Rat.intCast_natCast]; grind
  · rw [Int.natAbs_mul, Int.natAbs_natCast, Nat.pow_add, Nat.pow_add]
    have h64 : 1 ≤ 64 ^ k := Nat.pow_pos (by decide)
    calc z.natAbs * N ^ k ≤ (a * (64 ^ d * N ^ d)) * N ^ k := Nat.mul_le_mul_right _ h2
      _ = a * (64 ^ d * 1 * (N ^ d * N ^ k)) := by grind
      _ ≤ a * (64 ^ d * 64 ^ k * (N ^ d * N ^ k)) := Nat.mul_le_mul_left _ (Nat.mul_le_mul_right _ (Nat.mul_le_mul_left _ h64))
theorem DgM.den {N d m : Nat} {q : Rat} (hN : 0 < N) (h : DgM N d m q) : q.den ∣ N ^ d ∧ q.num.natAbs ≤ m * 64 ^ d * q.den := by
  obtain ⟨z, h1, h2⟩ := h
  have hp : 0 < N ^ d := Nat.pow_pos hN
  have hq : q = Rat.divInt z (N ^ d : Nat) := by
    rw [Rat.divInt_eq_div]
    have hne : ((N ^ d : Nat) : Rat) ≠ 0 := by
      intro e
      have := (Rat.natCast_eq_zero_iff).mp e
      omega
    rw [← h1]
    show q = q * _ / (((N ^ d : Nat) : Int) : Rat)
    rw [Rat.intCast_natCast, Rat.mul_div_cancel hne]
  have hd : q.den ∣ N ^ d := by
    rw [hq, Rat.divInt_ofNat, Rat.den_mkRat, if_neg (by omega)]
    exact Nat.div_dvd_of_dvd (Nat.gcd_dvd_left _ _)
  refine ⟨hd, ?_⟩
  have e : q.num * (N ^ d : Nat) = z * q.den := by
    have : Rat.divInt z (N ^ d : Nat) = Rat.divInt q.num q.den := by rw [← hq, Rat.num_divInt_den]
    exact ((Rat.divInt_eq_divInt_iff (by omega) (by have := q.den_nz; omega)).mp this).symm
  have e2 := congrArg Int.natAbs e
  rw [Int.natAbs_mul, Int.natAbs_mul, Int.natAbs_natCast, Int.natAbs_natCast] at e2
  have : q.num.natAbs * N ^ d ≤ (m * 64 ^ d * q.den) * N ^ d := by
    rw [e2]
    calc z.natAbs * q.den ≤ (m * (64 ^ d * N ^ d)) * q.den := Nat.mul_le_mul_right _ h2
      _ = (m * 64 ^ d * q.den) * N ^ d := by grind
  exact Nat.le_of_mul_le_mul_right this hp
theorem DgM.sz {N d m k s : Nat} {q : Rat} (hN : 0 < N) (hN2 : N ≤ 64) (h : DgM N d m q) (hm : m ≤ 2 ^ k) (hs : 12 * d + k + 1 ≤ s) : Sz s q := by
  obtain ⟨h1, h2⟩ := h.den hN
  have h3 : q.den ≤ N ^ d := Nat.le_of_dvd (Nat.pow_pos hN) h1
  have h4 : N ^ d ≤ 64 ^ d := Nat.pow_le_pow_left hN2 d
  have h5 : (64 : Nat) ^ d = 2 ^ (6 * d) := by rw [Nat.pow_mul]
  have h6 : q.den ≤ 2 ^ (6 * d) := by omega
  constructor
  · have : q.num.natAbs ≤ 2 ^ (12 * d + k) := by
      calc q.num.natAbs ≤ m * 64 ^ d * q.den := h2
        _ ≤ 2 ^ k * 2 ^ (6 * d) * 2 ^ (6 * d) := by rw [h5]; exact Nat.mul_le_mul (Nat.mul_le_mul_right _ hm) h6
        _ = 2 ^ (12 * d + k) := by rw [← Nat.pow_add, ← Nat.pow_add]; congr 1; omega
    exact Nat.lt_of_le_of_lt this (Nat.pow_lt_pow_right (by decide) (by omega))
  · exact Nat.lt_of_le_of_lt h6 (Nat.pow_lt_pow_right (by decide) (by omega))
section
variable {G : List Nat → Option T} {F : List Nat → Option Fn} {N d e a b ka kb n : Nat} {p q : Rat} {M : Mach}
theorem lplusM (L : LFr F) (hN : 0 < N) (hN2 : N ≤ 64) (hp : DgM N d a p) (hq : DgM N e b q) (ha : a ≤ 2 ^ ka) (hb : b ≤ 2 ^ kb) (h : 12 * (d + e) + ka + kb + 2 ≤ 600) (n : Nat) : runP G F (n + 3) n__law_plus [fr p, fr q] = some (fr (p + q)) :=
  pun_plus (f := n__law_plus) (g := n__law_frac) L.pl (L.mk_ n) (hp.sz hN hN2 ha (Nat.le_refl _)) (hq.sz hN hN2 hb (Nat.le_refl _)) (by omega) (by omega) (by omega) (by omega)
theorem ltimesM (L : LFr F) (hN : 0 < N) (hN2 : N ≤ 64) (hp : DgM N d a p) (hq : DgM N e b q) (ha : a ≤ 2 ^ ka) (hb : b ≤ 2 ^ kb) (h : 12 * (d + e) + ka + kb + 2 ≤ 600) (n : Nat) : runP G F (n + 3) n__law_times [fr p, fr q] = some (fr (p * q)) :=
  pun_times (f := n__law_times) (g := n__law_frac) L.ti (L.mk_ n) (hp.sz hN hN2 ha (Nat.le_refl _)) (hq.sz hN hN2 hb (Nat.le_refl _)) (by omega) (by omega) (by omega) (by omega)
theorem dot_M : ∀ {r o : List Rat}, (∀ x ∈ r, DgM N d a x) → (∀ y ∈ o, DgM N e b y) → DgM N (d + e) (r.length * (a * b)) (dot r o)
  | [], _, _, _ => by simp only [dot]; exact ⟨0, by simp, by simp⟩
  | _ :: xs, [], _, _ => by simp only [dot]; exact ⟨0, by simp, by simp⟩
  | x :: xs, y :: ys, hr, ho => by
    simp only [dot, List.length_cons]
    have := ((hr x (by simp)).mul (ho y (by simp))).add (dot_M (r := xs) (o := ys) (fun z m => hr z (by simp [m])) (fun z m => ho z (by simp [m])))
    rwa [show a * b + xs.length * (a * b) = (xs.length + 1) * (a * b) by rw [Nat.succ_mul, Nat.add_comm]] at this
theorem lsumM_loop (L : LFr F) (hN : 0 < N) (hN2 : N ≤ 64) (ha : a ≤ 2 ^ ka) (hb : b ≤ 2 ^ kb) (hB : 24 * (d + e) + 2 * (ka + kb + 6) + 2 ≤ 600) {r o : List Rat} (hr : ∀ x ∈ r, DgM N d a x) (ho : ∀ y ∈ o, DgM N e b y) (n : Nat) : ∀ (r' o' : List Rat) (k m : Nat) (acc : Rat) (s3 : Option T), r.drop k = r' → o.drop k = o' → r'.length ≤ o'.length → DgM N (d + e) (m * (a * b)) acc → m + r'.length ≤ 64 → ∃ s3',
    forP (fun x p => pbind (.nm 3) x p) (pSs G (runP G F (n + 3)) b_lsum) ((List.range' k r'.length).map fun i => T.int (i : Nat)) [some (rowT r), some (rowT o), some (fr acc), s3] = some (.nx [some (rowT r), some (rowT o), some (fr (acc + dot r' o')), s3'])
  | [], o', k, m, acc, s3, _, _, _, _, _ => ⟨s3, by simp [dot, Rat.add_zero]⟩
  | x :: r', [], k, m, acc, s3, _, _, hl, _, _ => by simp at hl
  | x :: r', y :: o', k, m, acc, s3, hd, hd2, hl, hacc, hm => by
    have hk : r[k]? = some x := by
      have := List.getElem?_drop (xs := r) (i := k) (j := 0)
      rw [hd] at this
      simpa using this.symm
    have hk2 : o[k]? = some y := by
      have := List.getElem?_drop (xs := o) (i := k) (j := 0)
      rw [hd2] at this
      simpa using this.symm
    have hr1 : r.drop (k + 1) = r' := by rw [← List.drop_drop, hd]; rfl
    have ho1 : o.drop (k + 1) = o' := by rw [← List.drop_drop, hd2]; rfl
    have gx : L2.atI (r.map fr) (k : Int) = some (fr x) := by rw [atI_ofNat, List.getElem?_map, hk]; rfl
    have gy : L2.atI (o.map fr) (k : Int) = some (fr y) := by rw [atI_ofNat, List.getElem?_map, hk2]; rfl
    have dx := hr x (List.mem_of_getElem? hk)
    have dy := ho y (List.mem_of_getElem? hk2)
    have hm' : m + (r'.length + 1) ≤ 64 := hm
    have hab : a * b ≤ 2 ^ (ka + kb) := by rw [Nat.pow_add]; exact Nat.mul_le_mul ha hb
    have hmab : m * (a * b) ≤ 2 ^ (ka + kb + 6) := by
      have : m * (a * b) ≤ 2 ^ 6 * 2 ^ (ka + kb) := Nat.mul_le_mul (show m ≤ 64 by omega) hab
      rwa [← Nat.pow_add, Nat.add_comm] at this
    have t1 := ltimesM L hN hN2 (G := G) dx dy ha hb (by omega) n
    have t2 := lplusM L hN hN2 (G := G) hacc (dx.mul dy) hmab hab (by omega) n
    have ha' := hacc.add (dx.mul dy)
    rw [show m * (a * b) + a * b = (m + 1) * (a * b) by rw [Nat.succ_mul]] at ha'
    obtain ⟨s3', ih⟩ := lsumM_loop L hN hN2 ha hb hB hr ho n r' o' (k + 1) (m + 1) (acc + x * y) (some (.int k)) hr1 ho1 (by simpa using hl) ha' (by omega)
    refine ⟨s3', ?_⟩
    rw [show acc + dot (x :: r') (y :: o') = acc + x * y + dot r' o' by simp only [dot]; grind, ← ih]
    rw [List.length_cons, List.range'_succ, List.map_cons, forP_cons]
    congr 1
    have fx : fr x = .tup [.int x.num, .int x.den] := rfl
    have fy : fr y = .tup [.int y.num, .int y.den] := rfl
    by_cases h0 : x = 0
    · have hx0 : x.num = 0 := num_ne.mpr h0
      have : x * y = 0 := by rw [h0, Rat.zero_mul]
      rw [this, Rat.add_zero]
      rw [fx] at gx
      simp [b_lsum, rowT, -atI_ofNat, gx, hx0]
    · by_cases h1 : y = 0
      · have hy0 : y.num = 0 := num_ne.mpr h1
        have hx0 : ¬ x.num = 0 := fun h => h0 (num_ne.mp h)
        have : x * y = 0 := by rw [h1, Rat.mul_zero]
        rw [this, Rat.add_zero]
        rw [fx] at gx
        rw [fy] at gy
        simp [b_lsum, rowT, -atI_ofNat, gx, gy, hx0, hy0]
      · have hx0 : ¬ x.num = 0 := fun h => h0 (num_ne.mp h)
        have hy0 : ¬ y.num = 0 := fun h => h1 (num_ne.mp h)
        have t1' := t1
        rw [fx, fy] at t1'
        rw [fx] at gx
        rw [fy] at gy
        simp [b_lsum, rowT, -atI_ofNat, gx, gy, hx0, hy0, t1', t2]
theorem lsumM (L : LFr F) (hs : F n__law_sum = some f__law_sum) (hN : 0 < N) (hN2 : N ≤ 64) (ha : a ≤ 2 ^ ka) (hb : b ≤ 2 ^ kb) (hB : 24 * (d + e) + 2 * (ka + kb + 6) + 2 ≤ 600) {r o : List Rat} (hr : ∀ x ∈ r, DgM N d a x) (ho : ∀ y ∈ o, DgM N e b y) (hl : r.length ≤ o.length) (hl2 : r.length ≤ 64) (n : Nat) : runP G F (n + 4) n__law_sum [rowT r, rowT o] = some (fr (dot r o)) := by
  obtain ⟨s3', h⟩ := lsumM_loop (G := G) L hN hN2 ha hb hB hr ho n r o 0 0 0 none rfl rfl hl ⟨0, by simp, by simp⟩ (by omega)
  have hr := rng_n (n := r.length) (by omega)
  have hrr : List.range r.length = List.range' 0 r.length := List.range_eq_range' ..
  rw [hrr] at hr
  rw [show n + 4 = (n + 3) + 1 from rfl, runP1 hs _ _ rfl]
  rw [Rat.zero_add, fr_zero] at h
  unfold b_lsum at h
  simp only [pbind_nm, rowT] at h
  simp [f__law_sum, rowT, hr, h]
theorem colM_mem {w m j} (h : Rect w m) (hj : j < w) (hm : ∀ l ∈ m, ∀ x ∈ l, DgM N e b x) : ∀ y ∈ col m j, DgM N e b y := by
  intro y hy
  obtain ⟨l, hl, rfl⟩ := List.mem_map.mp hy
  have := h.2 l hl
  have hj' : j < l.length := by omega
  rw [List.getD_eq_getElem?_getD, List.getElem?_eq_getElem hj']
  exact hm l hl _ (List.getElem_mem _)
theorem rowBy_M {r : List Rat} {m w} (h : Rect w m) (hr : ∀ x ∈ r, DgM N d a x) (hm : ∀ l ∈ m, ∀ x ∈ l, DgM N e b x) : ∀ x ∈ rowBy r m, DgM N (d + e) (r.length * (a * b)) x := by
  intro x hx
  obtain ⟨j, hj, rfl⟩ := List.mem_map.mp hx
  have := List.mem_range.mp hj
  rw [h.head] at this
  exact dot_M hr (colM_mem h this hm)
theorem lbyM (L : LFr F) (hs : F n__law_sum = some f__law_sum) (hb' : F n__law_by = some f__law_by) (hN : 0 < N) (hN2 : N ≤ 64) (ha : a ≤ 2 ^ ka) (hb : b ≤ 2 ^ kb) (hB : 24 * (d + e) + 2 * (ka + kb + 6) + 2 ≤ 600) {r : List Rat} {m : List (List Rat)} {w : Nat} (h : Rect w m) (hw : w ≤ 1000) (hr : ∀ x ∈ r, DgM N d a x) (hm : ∀ l ∈ m, ∀ x ∈ l, DgM N e b x) (hl : r.length ≤ m.length) (hl2 : r.length ≤ 64) (hl3 : m.length ≤ 1000) (n : Nat) : runP G F (n + 5) n__law_by [rowT r, tabT m] = some (rowT (rowBy r m)) := by
  obtain ⟨l0, r0, e0, hl0⟩ := h.first
  have hrg := rng_n (n := w) (by omega)
  have inner : ∀ j, j < w → ∀ s3, (pden G (runP G F (n + 4)) (.lc (.ix (.var 3) (.var 2)) (.nm 3) (.var 1) [] [3])).v [some (rowT r), some (tabT m), some (.int (j : Nat)), s3] = some (rowT (col m j)) := by
    intro j hj s3
    rw [pv_lc_all (l := m) rowT (fun l => fr (l.getD j 0)) (by simp [tabT]) (fun a ha => by
      have := row_at (l := a) (j := j) (by rw [h.2 a ha]; exact hj)
      simp [rowT, -atI_ofNat, this]) (by omega)]
    simp [rowT, col]
  have outer : (pden G (runP G F (n + 4)) (.lc (.call n__law_sum [.var 0, .lc (.ix (.var 3) (.var 2)) (.nm 3) (.var 1) [] [3]]) (.nm 2) (.rng [.blt .len [.ix (.var 1) (.int 0)]]) [] [2])).v [some (rowT r), some (tabT m), none, none] = some (rowT (rowBy r m)) := by
    rw [pv_lc_all (l := List.range w) (fun j => T.int (j : Nat)) (fun j => fr (dot r (col m j))) (by
      subst e0
      simp [tabT, rowT, hl0, hrg]) (fun j hj => by
      have hj' := List.mem_range.mp hj
      have := lsumM (G := G) L hs hN hN2 ha hb hB hr (colM_mem h hj' hm) (by simpa [col] using hl) hl2 n
      simp [-pv_lc, inner j hj', this]) (by simp; omega)]
    simp [rowT, rowBy, h.head]
  rw [show n + 5 = (n + 4) + 1 from rfl, runP1 hb' _ _ rfl]
  simp [f__law_by, -pv_lc, outer]
/-- machines whose tables' items are such sums -/
structure McM (N d0 e b n : Nat) (M : Mach) : Prop where
  n1 : 1 ≤ n
  n2 : n ≤ 64
  ls : M.start.length = n
  lf : M.fin.length = n
  lt : M.steps.length = M.letters.length
  tb : ∀ t ∈ M.steps, t.length = n ∧ ∀ l ∈ t, l.length = n
  ds : ∀ x ∈ M.start, DgM N d0 1 x
  df : ∀ x ∈ M.fin, DgM N d0 1 x
  dt : ∀ t ∈ M.steps, ∀ l ∈ t, ∀ x ∈ l, DgM N e b x
theorem McM.tab_mem {d0 : Nat} (K : McM N d0 e b n M) {c : Nat} (ha : c ∈ M.letters) : M.tab c ∈ M.steps := by
  have h1 : M.letters.findIdx (· == c) < M.letters.length := List.findIdx_lt_length_of_exists ⟨c, ha, by simp⟩
  have h2 : M.letters.findIdx (· == c) < M.steps.length := by rw [K.lt]; exact h1
  unfold Mach.tab
  rw [List.getD_eq_getElem?_getD, List.getElem?_eq_getElem h2]
  exact List.getElem_mem _
theorem McM.rect {d0 : Nat} (K : McM N d0 e b n M) {c : Nat} (ha : c ∈ M.letters) : Rect n (M.tab c) := by
  have h := K.tb _ (K.tab_mem ha)
  refine ⟨fun e => ?_, h.2⟩
  rw [e] at h
  have := K.n1
  simp at h
  omega
theorem McM.ix {d0 : Nat} (K : McM N d0 e b n M) {c : Nat} (ha : c ∈ M.letters) : ∃ j : Nat, M.letters.findIdx? (· == c) = some j ∧ L2.atI (M.steps.map tabT) (j : Int) = some (tabT (M.tab c)) := by
  have h1 : M.letters.findIdx (· == c) < M.letters.length := List.findIdx_lt_length_of_exists ⟨c, ha, by simp⟩
  have h2 : M.letters.findIdx (· == c) < M.steps.length := by rw [K.lt]; exact h1
  refine ⟨M.letters.findIdx (· == c), ?_, ?_⟩
  · rw [List.findIdx?_eq_some_iff_findIdx_eq]; exact ⟨h1, rfl⟩
  · rw [atI_ofNat, List.getElem?_map, List.getElem?_eq_getElem h2]
    unfold Mach.tab
    rw [List.getD_eq_getElem?_getD, List.getElem?_eq_getElem h2]
    rfl
theorem lreachM_loop {d0 c : Nat} (L : LMach F) (hN : 0 < N) (hN2 : N ≤ 64) (K : McM N d0 e b n M) (hc : n * b ≤ 2 ^ c) (s1 : Option T) (q : Nat) : ∀ (w : List Nat) (r : List Rat) (k m : Nat) (s3 : Option T), (∀ a ∈ w, a ∈ M.letters) → (∀ x ∈ r, DgM N k (2 ^ m) x) → r.length = n → 24 * (k + w.length * e) + 2 * (m + w.length * c + 6) + 2 ≤ 600 → ∃ s3',
    forP (fun x p => pbind (.nm 3) x p) (pSs G (runP G F (q + 5)) [.set 2 (.call n__law_by [.mov 2, .ix (.ix (.var 0) (.int 2)) (.meth .sindex (.ix (.var 0) (.int 0)) [.mov 3])])]) (w.map fun c => T.str [c]) [some (machT M), s1, some (rowT r), s3] = some (.nx [some (machT M), s1, some (rowT (reachF M r w)), s3']) ∧ (∀ x ∈ reachF M r w, DgM N (k + w.length * e) (2 ^ (m + w.length * c)) x) ∧ (reachF M r w).length = n
  | [], r, k, m, s3, _, h, hl, _ => ⟨s3, by simp [reachF], by simpa [reachF] using h, hl⟩
  | a :: w, r, k, m, s3, hw, h, hl, hB => by
    have ha := hw a (by simp)
    have R := K.rect ha
    have D := K.dt _ (K.tab_mem ha)
    have n1 := K.n1
    have n2 := K.n2
    rw [List.length_cons, Nat.succ_mul w.length e, Nat.succ_mul w.length c] at hB
    have hb : b ≤ 2 ^ c := Nat.le_trans (Nat.le_mul_of_pos_left _ (by omega)) hc
    have hby := lbyM (G := G) L.toLFr L.su L.by_ hN hN2 (d := k) (e := e) (ka := m) (kb := c) (Nat.le_refl _) hb (by omega) R (by omega) h D (by rw [hl, (K.tb _ (K.tab_mem ha)).1]; omega) (by omega) (by rw [(K.tb _ (K.tab_mem ha)).1]; omega) q
    have h' : ∀ x ∈ rowBy r (M.tab a), DgM N (k + e) (2 ^ (m + c)) x := fun x mx => by
      refine (rowBy_M R h D x mx).le ?_
      rw [hl, Nat.pow_add, show n * (2 ^ m * b) = 2 ^ m * (n * b) by rw [Nat.mul_left_comm]]
      exact Nat.mul_le_mul_left _ hc
    obtain ⟨s3', ih, i2, i3⟩ := lreachM_loop L hN hN2 K hc s1 q w (rowBy r (M.tab a)) (k + e) (m + c) (some (.str [a])) (fun b m => hw b (by simp [m])) h' (rowBy_len R) (by omega)
    obtain ⟨j, j1, j2⟩ := K.ix ha
    have er : reachF M r (a :: w) = reachF M (rowBy r (M.tab a)) w := rfl
    refine ⟨s3', ?_, ?_, ?_⟩
    · rw [er, ← ih, List.map_cons, forP_cons]
      simp [machT, methV, -atI_ofNat, j1, j2, hby]
    · rw [er, List.length_cons, Nat.succ_mul, Nat.succ_mul, show k + (w.length * e + e) = k + e + w.length * e by omega, show m + (w.length * c + c) = m + c + w.length * c by omega]
      exact i2
    · rw [er]; exact i3
theorem lworthM {d0 c : Nat} (L : LMach F) (hN : 0 < N) (hN2 : N ≤ 64) (K : McM N d0 e b n M) (hc : n * b ≤ 2 ^ c) {w : List Nat} (hw : ∀ a ∈ w, a ∈ M.letters) (hB : 24 * (d0 + w.length * e + d0) + 2 * (w.length * c + 6) + 2 ≤ 600) (q : Nat) : runP G F (q + 7) n__law_worth [machT M, .str w] = some (fr (worthM M w)) := by
  have n2 := K.n2
  obtain ⟨s3', h, g1, g2⟩ := lreachM_loop (G := G) L hN hN2 K hc (some (.str w)) q w M.start d0 0 none hw K.ds K.ls (by omega)
  have h1 : runP G F (q + 6) n__law_reach [machT M, .str w] = some (rowT (reachF M M.start w)) := by
    rw [show q + 6 = (q + 5) + 1 from rfl, runP1 L.re _ _ rfl]
    simp only [pbind_nm] at h
    simp only [machT, rowT] at h ⊢
    simp [f__law_reach, h]
  rw [Nat.zero_add] at g1
  have h2 := lsumM (G := G) L.toLFr L.su hN hN2 (ka := w.length * c) (kb := 0) (Nat.le_refl _) (Nat.le_refl _) (by omega) g1 K.df (by rw [g2, K.lf]; omega) (by omega) (q + 2)
  rw [show q + 7 = (q + 6) + 1 from rfl, runP1 L.wo _ _ rfl]
  simp [f__law_worth, h1]
  simp only [machT] at h1 ⊢
  simp [h2, worthM]
end
end Ev
namespace K84
open PySem L2 Ev
def n_in_set : List Nat := [105, 110, 95, 115, 101, 116]
def n_chosen_table : List Nat := [99, 104, 111, 115, 101, 110, 95, 116, 97, 98, 108, 101]
def n_chosen : List Nat := [99, 104, 111, 115, 101, 110]
def n_several_times : List Nat := [115, 101, 118, 101, 114, 97, 108, 95, 116, 105, 109, 101, 115]
def n__law_chosen : List Nat := [95, 108, 97, 119, 95, 99, 104, 111, 115, 101, 110]
def n__law_several : List Nat := [95, 108, 97, 119, 95, 115, 101, 118, 101, 114, 97, 108]
def n_law : List Nat := [108, 97, 119]
-- in_set: ['row', 'number', 'sets', 'size']
def f_in_set : Fn := ⟨3, 4, [.set 3 (.blt .len [.var 0]), .ret (.bin .add (.bin .add (.bin .mul (.lst [.glob [90, 69, 82, 79]]) (.bin .mul (.var 3) (.var 1))) (.blt .list [.mov 0])) (.bin .mul (.lst [.glob [90, 69, 82, 79]]) (.bin .mul (.var 3) (.bin .sub (.bin .sub (.mov 2) (.int 1)) (.var 1)))))]⟩
-- chosen_table: ['table', 'rest', 'modulus', 'found', 'number', 'here', 'row']
def f_chosen_table : Fn := ⟨3, 7, [.set 3 (.lst []), .for_ (.nm 4) (.rng [.var 2]) [.set 5 (.ife (.cmp .eq (.var 4) (.var 1)) (.var 0) (.call n_unit_table [.blt .len [.var 0]])), .set 3 (.bin .add (.mov 3) (.lc (.call n_in_set [.var 6, .bin .mod (.bin .add (.var 4) (.int 1)) (.var 2), .var 2]) (.nm 6) (.mov 5) [] [6]))], .ret (.mov 3)]⟩
-- chosen: ['machine', 'rest', 'modulus', 'letters', 'start', 'steps', 'end', 'made', 'table']
def f_chosen : Fn := ⟨3, 9, [.asg (.tp [(.nm 3), (.nm 4), (.nm 5), (.nm 6)]) (.mov 0), .setc 7 (.call n_chosen_table [.var 8, .var 1, .var 2]) (.nm 8) (.mov 5) [] [8], .ret (.tup [.mov 3, .call n_in_set [.mov 4, .int 0, .var 2], .mov 7, .bin .mul (.blt .list [.mov 6]) (.var 2)])]⟩
-- several_times: ['machine', 'number', 'letters', 'start', 'steps', 'end', 'made', 'table', 'rows', '_', 'row']
def f_several_times : Fn := ⟨2, 11, [.asg (.tp [(.nm 2), (.nm 3), (.nm 4), (.nm 5)]) (.mov 0), .set 6 (.lst []), .for_ (.nm 7) (.mov 4) [.set 8 (.call n_unit_table [.blt .len [.var 7]]), .for_ (.nm 9) (.rng [.var 1]) [.setc 8 (.call n_row_by [.var 10, .var 7]) (.nm 10) (.mov 8) [] [10]], .app 6 [] (.mov 8)], .ret (.tup [.mov 2, .blt .list [.mov 3], .mov 6, .blt .list [.mov 5]])]⟩
-- _law_chosen: ['machine', 'rest', 'modulus', 'letters', 'start', 'steps', 'end', 'size', 'ones', 'tables', 'table', 'rows', 'number', 'following', 'i', 'here']
def f__law_chosen : Fn := ⟨3, 16, [.asg (.tp [(.nm 3), (.nm 4), (.nm 5), (.nm 6)]) (.mov 0), .set 7 (.blt .len [.var 4]), .set 8 (.call n__law_ones [.var 7]), .set 9 (.lst []), .for_ (.nm 10) (.mov 5) [.set 11 (.lst []), .for_ (.nm 12) (.rng [.var 2]) [.set 13 (.bin .mod (.blt .int [.bin .add (.var 12) (.int 1)]) (.var 2)), .for_ (.nm 14) (.rng [.var 7]) [.set 15 (.ix (.ix (.lst [.var 8, .var 10]) (.blt .int [.cmp .eq (.var 12) (.var 1)])) (.mov 14)), .app 11 [] (.bin .add (.bin .add (.call n__law_zeros [.bin .mul (.var 7) (.var 13)]) (.mov 15)) (.call n__law_zeros [.bin .mul (.var 7) (.bin .sub (.bin .sub (.var 2) (.int 1)) (.var 13))]))]], .app 9 [] (.mov 11)], .ret (.tup [.mov 3, .bin .add (.mov 4) (.call n__law_zeros [.bin .mul (.mov 7) (.bin .sub (.var 2) (.int 1))]), .mov 9, .bin .mul (.mov 6) (.var 2)])]⟩
-- _law_several: ['machine', 'number', 'letters', 'start', 'steps', 'end', 'tables', 'table', 'rows', 'turn', 'row']
def f__law_several : Fn := ⟨2, 11, [.asg (.tp [(.nm 2), (.nm 3), (.nm 4), (.nm 5)]) (.mov 0), .set 6 (.lst []), .for_ (.nm 7) (.mov 4) [.set 8 (.call n__law_ones [.blt .len [.var 3]]), .for_ (.nm 9) (.rng [.var 1]) [.setc 8 (.call n__law_by [.var 10, .var 7]) (.nm 10) (.mov 8) [] [10]], .app 6 [] (.mov 8)], .ret (.tup [.mov 2, .blt .list [.mov 3], .mov 6, .blt .list [.mov 5]])]⟩
-- law: ['script', 'draws', 'letters', 'machine', 'kept', 'words', 'modulus', 'rest', 'due', 'turn', 'told', 'word', 'number', 'k', 'letter']
def f_law : Fn := ⟨1, 16, [.set 1 (.call n__law_numbers [.call n__law_cell [.var 0, .int 0], .int 10, .int 5040]), .set 2 (.ix (.lst [.str [97], .str [97, 98]]) (.bin .mod (.ix (.var 1) (.int 0)) (.int 2))), .set 3 (.call n__law_machine [.mov 0, .int 1, .var 2, .int 3]), .set 4 (.call n__law_copy [.var 3]), .set 5 (.call n__law_words [.var 2, .ix (.lst [.int 4, .int 3]) (.bin .sub (.blt .len [.var 2]) (.int 1))]), .set 6 (.bin .add (.int 2) (.bin .mod (.ix (.mov 1) (.int 1)) (.int 3))), .for_ (.nm 7) (.rng [.var 6]) [.set 8 (.call n__law_chosen [.var 3, .var 7, .var 6]), .for_ (.nm 9) (.rng [.int 2]) [.set 10 (.call n_chosen [.var 3, .var 7, .var 6]), .asr [.cmp .ne (.var 3) (.var 4)] 10 [] n__law_answer 8 []], .for_ (.nm 11) (.var 5) [.ite (.cmp .ne (.call n__law_worth [.var 8, .var 11]) (.call n__law_worth [.var 3, .meth .join (.str []) [.lc (.ix (.var 11) (.var 13)) (.nm 13) (.rng [.blt .len [.var 11]]) [.cmp .eq (.bin .mod (.blt .int [.var 13]) (.var 6)) (.var 7)] [13]]])) [.ret (.bl false)] []]], .for_ (.nm 12) (.rng [.int 1, .int 5]) [.set 8 (.call n__law_several [.var 3, .var 12]), .for_ (.nm 9) (.rng [.int 2]) [.set 10 (.call n_several_times [.var 3, .var 12]), .asr [.cmp .ne (.var 3) (.var 4)] 10 [] n__law_answer 8 []], .for_ (.nm 11) (.sl (.var 5) [.int 0] [.int 9]) [.ite (.cmp .ne (.call n__law_worth [.var 8, .var 11]) (.call n__law_worth [.var 3, .meth .join (.str []) [.lc (.bin .mul (.var 14) (.var 12)) (.nm 14) (.var 11) [] [14]]])) [.ret (.bl false)] []]], .ret (.cmp .eq (.mov 3) (.mov 4))]⟩
def tab : List (List Nat × Fn) := [(n_fraction, f_fraction), (n_whole, f_whole), (n_plus, f_plus), (n_times, f_times), (n_sum_of, f_sum_of), (n_sum_by, f_sum_by), (n_column, f_column), (n_row_by, f_row_by), (n_unit_row, f_unit_row), (n_unit_table, f_unit_table), (n_in_set, f_in_set), (n_chosen_table, f_chosen_table), (n_chosen, f_chosen), (n_several_times, f_several_times), (n__law_cell, f__law_cell), (n__law_numbers, f__law_numbers), (n__law_common, f__law_common), (n__law_frac, f__law_frac), (n__law_plus, f__law_plus), (n__law_times, f__law_times), (n__law_item, f__law_item), (n__law_machine, f__law_machine), (n__law_sum, f__law_sum), (n__law_by, f__law_by), (n__law_reach, f__law_reach), (n__law_worth, f__law_worth), (n__law_words, f__law_words), (n__law_same, f__law_same), (n__law_ones, f__law_ones), (n__law_zeros, f__law_zeros), (n__law_copy, f__law_copy), (0 :: n__law_answer, f__law_answer), (n__law_chosen, f__law_chosen), (n__law_several, f__law_several)]
def v_ZERO : T := .tup [.int 0, .int 1]
def con : List (List Nat × T) := [([90, 69, 82, 79], v_ZERO)]
def sigs : List (List Nat × (List Ty × Ty × AO)) := [(n_fraction, ([.nl, .nl], (.tup [.nl, .nl]), .full)), (n_whole, ([.nl], (.tup [.nl, .nl]), .full)), (n_plus, ([.nl, (.tup [.nl, .nl])], (.tup [.nl, .nl]), .full)), (n_times, ([.nl, (.tup [.nl, .nl])], (.tup [.nl, .nl]), .full)), (n_sum_of, ([(.lst (.tup [.nl, .nl]))], .nl, .full)), (n_sum_by, ([(.lst .nl), (.lst (.tup [.nl, .nl]))], .nl, .full)), (n_column, ([(.lst (.lst (.tup [.nl, .nl]))), .nl], (.lst (.tup [.nl, .nl])), .full)), (n_row_by, ([(.lst .nl), (.lst (.lst (.tup [.nl, .nl])))], (.lst .nl), .full)), (n_unit_row, ([.nl, .nl], (.lst (.tup [.nl, .nl])), .full)), (n_unit_table, ([.nl], (.lst (.lst (.tup [.nl, .nl]))), .full)), (n_in_set, ([(.lst (.tup [.nl, .nl])), .nl, .nl], (.lst .nl), .full)), (n_chosen_table, ([(.lst (.lst (.tup [.nl, .nl]))), .nl, .nl], (.lst (.lst .nl)), .full)), (n_chosen, ([(.tup [.nl, (.lst (.tup [.nl, .nl])), (.lst (.lst (.lst (.tup [.nl, .nl])))), (.lst (.tup [.nl, .nl]))]), .nl, .nl], (.tup [.nl, (.lst .nl), (.lst (.lst (.lst .nl))), (.lst (.tup [.nl, .nl]))]), .full)), (n_several_times, ([(.tup [.nl, (.lst (.tup [.nl, .nl])), (.lst (.lst (.lst (.tup [.nl, .nl])))), (.lst (.tup [.nl, .nl]))]), .nl], (.tup [.nl, (.lst (.tup [.nl, .nl])), (.lst (.lst (.lst .nl))), (.lst (.tup [.nl, .nl]))]), .full)), (n__law_cell, ([(.lst .nl), .nl], .nl, .full)), (n__law_numbers, ([.nl, .nl, .nl], (.lst .nl), .full)), (n__law_common, ([.nl, .nl], .nl, .full)), (n__law_frac, ([.nl, .nl], (.tup [.nl, .nl]), .full)), (n__law_plus, ([(.tup [.nl, .nl]), (.tup [.nl, .nl])], (.tup [.nl, .nl]), .full)), (n__law_times, ([(.tup [.nl, .nl]), .top], (.tup [.nl, .nl]), .full)), (n__law_item, ([.nl], (.tup [.nl, .nl]), .full)), (n__law_machine, ([(.lst .nl), .nl, .nl, .nl], (.tup [.nl, (.lst (.tup [.nl, .nl])), (.lst (.lst (.lst (.tup [.nl, .nl])))), (.lst (.tup [.nl, .nl]))]), .full)), (n__law_sum, ([(.lst (.tup [.nl, .nl])), .top], (.tup [.nl, .nl]), .full)), (n__law_by, ([(.lst (.tup [.nl, .nl])), (.lst (.lst (.tup [.nl, .nl])))], (.lst (.tup [.nl, .nl])), .full)), (n__law_reach, ([(.tup [.nl, (.lst (.tup [.nl, .nl])), (.lst (.lst (.lst (.tup [.nl, .nl])))), .top]), .nl], (.lst (.tup [.nl, .nl])), .full)), (n__law_worth, ([(.tup [.nl, (.lst (.tup [.nl, .nl])), (.lst (.lst (.lst (.tup [.nl, .nl])))), .top]), .nl], (.tup [.nl, .nl]), .full)), (n__law_words, ([.nl, .nl], (.lst .nl), .full)), (n__law_same, ([.top, .top], .nl, .full)), (n__law_ones, ([.nl], (.lst (.lst (.tup [.nl, .nl]))), .full)), (n__law_zeros, ([.nl], (.lst (.tup [.nl, .nl])), .full)), (n__law_copy, ([(.tup [.nl, (.lst (.tup [.nl, .nl])), (.lst (.lst (.lst (.tup [.nl, .nl])))), (.lst (.tup [.nl, .nl]))])], (.tup [.nl, (.lst (.tup [.nl, .nl])), (.lst (.lst (.lst (.tup [.nl, .nl])))), (.lst (.tup [.nl, .nl]))]), .full)), (0 :: n__law_answer, ([(.tup [.nl, (.lst .nl), (.lst (.lst (.lst .nl))), (.lst (.tup [.nl, .nl]))]), (.tup [.nl, (.lst (.tup [.nl, .nl])), (.lst (.lst (.lst (.tup [.nl, .nl])))), .top])], (.tup [.nl, .top]), .full)), (n__law_chosen, ([(.tup [.nl, (.lst (.tup [.nl, .nl])), (.lst (.lst (.lst (.tup [.nl, .nl])))), (.lst (.tup [.nl, .nl]))]), .nl, .nl], (.tup [.nl, (.lst (.tup [.nl, .nl])), (.lst (.lst (.lst (.tup [.nl, .nl])))), .top]), .full)), (n__law_several, ([(.tup [.nl, (.lst (.tup [.nl, .nl])), (.lst (.lst (.lst (.tup [.nl, .nl])))), (.lst (.tup [.nl, .nl]))]), .nl], (.tup [.nl, (.lst (.tup [.nl, .nl])), (.lst (.lst (.lst (.tup [.nl, .nl])))), (.lst (.tup [.nl, .nl]))]), .full))]
abbrev GG := tabG con
abbrev FF := tabF tab
abbrev CC (n : Nat) := runP GG FF n
theorem tab_fraction : FF (n_fraction) = some f_fraction := rfl
theorem tab_whole : FF (n_whole) = some f_whole := rfl
theorem tab_plus : FF (n_plus) = some f_plus := rfl
theorem tab_times : FF (n_times) = some f_times := rfl
theorem tab_sum_of : FF (n_sum_of) = some f_sum_of := rfl
theorem tab_sum_by : FF (n_sum_by) = some f_sum_by := rfl
theorem tab_column : FF (n_column) = some f_column := rfl
theorem tab_row_by : FF (n_row_by) = some f_row_by := rfl
theorem tab_unit_row : FF (n_unit_row) = some f_unit_row := rfl
theorem tab_unit_table : FF (n_unit_table) = some f_unit_table := rfl
theorem tab_in_set : FF (n_in_set) = some f_in_set := rfl
theorem tab_chosen_table : FF (n_chosen_table) = some f_chosen_table := rfl
theorem tab_chosen : FF (n_chosen) = some f_chosen := rfl
theorem tab_several_times : FF (n_several_times) = some f_several_times := rfl
theorem tab__law_cell : FF (n__law_cell) = some f__law_cell := rfl
theorem tab__law_numbers : FF (n__law_numbers) = some f__law_numbers := rfl
theorem tab__law_common : FF (n__law_common) = some f__law_common := rfl
theorem tab__law_frac : FF (n__law_frac) = some f__law_frac := rfl
theorem tab__law_plus : FF (n__law_plus) = some f__law_plus := rfl
theorem tab__law_times : FF (n__law_times) = some f__law_times := rfl
theorem tab__law_item : FF (n__law_item) = some f__law_item := rfl
theorem tab__law_machine : FF (n__law_machine) = some f__law_machine := rfl
theorem tab__law_sum : FF (n__law_sum) = some f__law_sum := rfl
theorem tab__law_by : FF (n__law_by) = some f__law_by := rfl
theorem tab__law_reach : FF (n__law_reach) = some f__law_reach := rfl
theorem tab__law_worth : FF (n__law_worth) = some f__law_worth := rfl
theorem tab__law_words : FF (n__law_words) = some f__law_words := rfl
theorem tab__law_same : FF (n__law_same) = some f__law_same := rfl
theorem tab__law_ones : FF (n__law_ones) = some f__law_ones := rfl
theorem tab__law_zeros : FF (n__law_zeros) = some f__law_zeros := rfl
theorem tab__law_copy : FF (n__law_copy) = some f__law_copy := rfl
theorem tab__law_answer : FF (0 :: n__law_answer) = some f__law_answer := rfl
theorem tab__law_chosen : FF (n__law_chosen) = some f__law_chosen := rfl
theorem tab__law_several : FF (n__law_several) = some f__law_several := rfl
end K84
namespace K84
open Ev
open PySem (sizeLine)
theorem LR : LFr FF := ⟨rfl, rfl, rfl, rfl⟩
theorem LM : LMach FF := { LR with su := rfl, by_ := rfl, re := rfl, wo := rfl }
theorem LD : LDraw FF := { LM with ce := rfl, nu := rfl, it := rfl, ma := rfl }
theorem PR : PRow GG FF := { fc := rfl, pl := rfl, ti := rfl, zr := rfl, so := rfl, sb := rfl, cl := rfl, rb := rfl }
def blk (n m j : Nat) (r : List Rat) : List Rat := zeroR (n * j) ++ r ++ zeroR (n * (m - 1 - j))
theorem blk_len {n m j : Nat} {r : List Rat} (hr : r.length = n) (hj : j < m) : (blk n m j r).length = n * m := by
  obtain ⟨e, rfl⟩ : ∃ e, m = j + 1 + e := ⟨m - 1 - j, by omega⟩
  have : j + 1 + e - 1 - j = e := by omega
  simp only [blk, List.length_append, zeroR_len, hr, this, Nat.mul_add, Nat.mul_one]
theorem blk_getD {n m j c : Nat} {r : List Rat} (hr : r.length = n) : (blk n m j r).getD c 0 = if n * j ≤ c ∧ c < n * j + n then r.getD (c - n * j) 0 else 0 := by
  unfold blk
  by_cases h1 : c < n * j
  · rw [List.append_assoc, app_l zeroR_len h1, zeroR_getD, if_neg (by omega)]
  · obtain ⟨d, rfl⟩ : ∃ d, c = n * j + d := ⟨c - n * j, by omega⟩
    rw [List.append_assoc, app_r zeroR_len]
    by_cases h2 : d < n
    · rw [app_l hr h2, if_pos (by omega), Nat.add_sub_cancel_left]
    · obtain ⟨e, rfl⟩ : ∃ e, d = n + e := ⟨d - n, by omega⟩
      rw [app_r hr, zeroR_getD, if_neg (by omega)]
theorem blk_dg {N d n m j : Nat} (hN : 0 < N) {r : List Rat} (h : ∀ x ∈ r, Dg N d x) : ∀ x ∈ blk n m j r, Dg N d x := fun x mx => by
  unfold blk at mx
  rcases List.mem_append.mp mx with mx | mx
  · rcases List.mem_append.mp mx with mx | mx
    · exact zeroR_dg hN x mx
    · exact h x mx
  · exact zeroR_dg hN x mx
theorem dot_app : ∀ {a b c d : List Rat}, a.length = c.length → dot (a ++ b) (c ++ d) = dot a c + dot b d
  | [], b, [], d, _ => by simp [dot, Rat.zero_add]
  | x :: a, b, y :: c, d, h => by
    simp only [List.cons_append, dot]
    rw [dot_app (by simpa using h), Rat.add_assoc]
  | [], _, _ :: _, _, h => by simp at h
  | _ :: _, _, [], _, h => by simp at h
theorem dot_zero : ∀ {s : Nat} {o : List Rat}, dot (zeroR s) o = 0
  | 0, _ => rfl
  | s + 1, [] => rfl
  | s + 1, y :: o => by
    show (0 : Rat) * y + dot (zeroR s) o = 0
    rw [dot_zero, Rat.zero_mul, Rat.add_zero]
theorem flat_len_eq {α : Type} {g : Nat → List α} {B : Nat} (h : ∀ k, (g k).length = B) : ∀ k, ((List.range k).flatMap g).length = B * k
  | 0 => by simp
  | k + 1 => by
    rw [List.range_succ, List.flatMap_append, List.length_append, flat_len_eq h k, Nat.mul_succ]
    simp [h]
/-- a row in a set meets that set's column alone -/
theorem dot_blk {n m j : Nat} (hj : j < m) {r : List Rat} (hr : r.length = n) {c : Nat → List Rat} (hc : ∀ k, (c k).length = n) : dot (blk n m j r) ((List.range m).flatMap c) = dot r (c j) := by
  obtain ⟨e, rfl⟩ : ∃ e, m = j + 1 + e := ⟨m - 1 - j, by omega⟩
  have e1 : (List.range (j + 1 + e)).flatMap c = (List.range j).flatMap c ++ (c j ++ ((List.range e).map (j + 1 + ·)).flatMap c) := by
    rw [List.range_add, List.range_succ, List.flatMap_append, List.flatMap_append]
    simp
  unfold blk
  rw [e1, List.append_assoc, dot_app (by rw [zeroR_len, flat_len_eq hc]), dot_app (by rw [hr, hc]), dot_zero, dot_zero, Rat.zero_add, Rat.add_zero]
theorem col_flat {m c : Nat} {g : Nat → List (List Rat)} : col ((List.range m).flatMap g) c = (List.range m).flatMap fun k => col (g k) c := by
  unfold col
  rw [List.map_flatMap]
/-- a letter's table in sets: at the place looked for the letter's own -/
def chT (n m rest : Nat) (A : List (List Rat)) : List (List Rat) := (List.range m).flatMap fun k => (if k = rest then A else eyeM n).map (blk n m ((k + 1) % m))
def chM (M : Mach) (n m rest : Nat) : Mach := ⟨M.letters, blk n m 0 M.start, M.steps.map (chT n m rest), (List.range m).flatMap fun _ => M.fin⟩
theorem eye_sq {n : Nat} : Sq n (eyeM n) := eyeM_ok
theorem ch_sq {n m rest k : Nat} {A : List (List Rat)} (hA : Sq n A) : Sq n (if k = rest then A else eyeM n) := by
  split
  · exact hA
  · exact eye_sq
theorem chT_sq {n m rest : Nat} {A : List (List Rat)} (hm : 1 ≤ m) (hA : Sq n A) : Sq (n * m) (chT n m rest A) := by
  refine ⟨flat_len_eq (fun k => by rw [List.length_map]; exact (ch_sq (m := m) hA).1) m, fun l ml => ?_⟩
  obtain ⟨k, hk, ml⟩ := List.mem_flatMap.mp ml
  obtain ⟨r, mr, rfl⟩ := List.mem_map.mp ml
  exact blk_len ((ch_sq (m := m) hA).2 r mr) (Nat.mod_lt _ (by omega))
theorem chT_dg {N d n m rest : Nat} (hN : 0 < N) {A : List (List Rat)} (dA : ∀ l ∈ A, ∀ x ∈ l, Dg N d x) : ∀ l ∈ chT n m rest A, ∀ x ∈ l, Dg N d x := fun l ml => by
  obtain ⟨k, hk, ml⟩ := List.mem_flatMap.mp ml
  obtain ⟨r, mr, rfl⟩ := List.mem_map.mp ml
  refine blk_dg hN ?_
  split at mr
  · exact dA r mr
  · exact eyeM_dg hN r mr
theorem rowBy_blk {n m j rest : Nat} (h1 : 1 ≤ n) (hj : j < m) {A : List (List Rat)} (hA : Sq n A) {r : List Rat} (hr : r.length = n) : rowBy (blk n m j r) (chT n m rest A) = blk n m ((j + 1) % m) (if j = rest then rowBy r A else r) := by
  have hf : (j + 1) % m < m := Nat.mod_lt _ (by omega)
  have hB := ch_sq (m := m) (rest := rest) (k := j) hA
  have e0 : (if j = rest then rowBy r A else r) = rowBy r (if j = rest then A else eyeM n) := by
    split
    · rfl
    · exact (rowBy_eye h1 hr).symm
  have S : Sq (n * m) (chT n m rest A) := chT_sq (by omega) hA
  have nm1 : 1 ≤ n * m := Nat.mul_pos h1 (by omega)
  have R := S.rect nm1
  rw [e0]
  refine row_ext (rowBy_len R) (blk_len (rowBy_len (hB.rect h1)) hf) fun c hc => ?_
  have e1 : (rowBy (blk n m j r) (chT n m rest A)).getD c 0 = dot (blk n m j r) (col (chT n m rest A) c) := by
    unfold rowBy
    rw [R.head, getD_mapR hc]
  rw [e1]
  unfold chT
  rw [col_flat, dot_blk hj hr (fun k => by rw [col_len, List.length_map]; exact (ch_sq (m := m) hA).1), blk_getD (rowBy_len (hB.rect h1))]
  generalize (if j = rest then A else eyeM n) = B at hB ⊢
  have RB := hB.rect h1
  have key : dot r (col (B.map (blk n m ((j + 1) % m))) c) = Sm n fun i => r.getD i 0 * (blk n m ((j + 1) % m) (B.getD i [])).getD c 0 := by
    rw [dot_Sm hr (by rw [col_len, List.length_map]; exact hB.1)]
    refine Sm_congr fun i hi => ?_
    have hi' : i < B.length := by rw [hB.1]; exact hi
    rw [col_getD (by simpa using hi')]
    simp [hi']
  rw [key]
  by_cases h : n * ((j + 1) % m) ≤ c ∧ c < n * ((j + 1) % m) + n
  · rw [if_pos h, rowBy_getD RB (by rw [hr, hB.1]) (by omega), hB.1]
    refine Sm_congr fun i hi => ?_
    rw [blk_getD (hB.at_ hi).1, if_pos h]
  · rw [if_neg h]
    refine Eq.trans (Sm_congr fun i hi => ?_) (Sm_zero (n := n))
    rw [blk_getD (hB.at_ hi).1, if_neg h, Rat.mul_zero]
/-- the letters at the places looked for -/
def pick (m rest : Nat) : Nat → List Nat → List Nat
  | _, [] => []
  | j, a :: w => if j = rest then a :: pick m rest ((j + 1) % m) w else pick m rest ((j + 1) % m) w
section
variable {N d n : Nat} {M : Mach}
theorem ch_tab {m rest a : Nat} (K : Mc N d n M) (ha : a ∈ M.letters) : (chM M n m rest).tab a = chT n m rest (M.tab a) := by
  have h2 : ixL M a < M.steps.length := by rw [K.lt]; exact ixL_lt ha
  show (M.steps.map (chT n m rest)).getD (ixL M a) [] = chT n m rest (M.steps.getD (ixL M a) [])
  simp [h2]
theorem ch_from {m rest : Nat} (K : Mc N d n M) : ∀ (w : List Nat) (j : Nat) (r : List Rat), (∀ a ∈ w, a ∈ M.letters) → j < m → r.length = n → fromR (chM M n m rest) (blk n m j r) w = fromR M r (pick m rest j w)
  | [], j, r, _, hj, hr => by
    show dot (blk n m j r) ((List.range m).flatMap fun _ => M.fin) = dot r M.fin
    exact dot_blk hj hr (fun _ => K.lf)
  | a :: w, j, r, hw, hj, hr => by
    have ha := hw a (by simp)
    have hA := tab_sq K ha
    have n1 := K.n1
    rw [from_cons, ch_tab K ha, rowBy_blk n1 hj hA hr]
    have hf : (j + 1) % m < m := Nat.mod_lt _ (by omega)
    rw [ch_from K w _ _ (fun b m => hw b (by simp [m])) hf (by split; exact rowBy_len (hA.rect n1); exact hr)]
    show _ = fromR M r (if j = rest then a :: pick m rest ((j + 1) % m) w else pick m rest ((j + 1) % m) w)
    split
    · rw [from_cons]
    · rfl
theorem ch_ok {m rest : Nat} (hm : 1 ≤ m) (hN : 0 < N) (hn : n * m ≤ 64) (K : Mc N d n M) : Mc N d (n * m) (chM M n m rest) where
  n1 := Nat.mul_pos K.n1 hm
  n2 := hn
  ls := blk_len K.ls (by omega)
  lf := flat_len_eq (fun _ => K.lf) m
  lt := by show (M.steps.map _).length = _; rw [List.length_map]; exact K.lt
  tb := fun t mt => by
    obtain ⟨A, mA, rfl⟩ := List.mem_map.mp mt
    exact chT_sq hm (K.tb A mA)
  nd := K.nd
  ll := K.ll
  ds := blk_dg hN K.ds
  df := fun x mx => by
    obtain ⟨k, _, mx⟩ := List.mem_flatMap.mp mx
    exact K.df x mx
  dt := fun t mt => by
    obtain ⟨A, mA, rfl⟩ := List.mem_map.mp mt
    exact chT_dg hN (K.dt A mA)
end
theorem pick_range {m rest : Nat} : ∀ (w : List Nat) (j : Nat), j < m → pick m rest j w = ((List.range w.length).filter fun k => decide ((k + j) % m = rest)).map fun k => w.getD k 0
  | [], j, _ => rfl
  | a :: w, j, hj => by
    have hf : (j + 1) % m < m := Nat.mod_lt _ (by omega)
    have ih := pick_range (rest := rest) w ((j + 1) % m) hf
    show (if j = rest then a :: pick m rest ((j + 1) % m) w else pick m rest ((j + 1) % m) w) = _
    rw [ih, List.length_cons, List.range_succ_eq_map, List.filter_cons, List.filter_map, Nat.zero_add, Nat.mod_eq_of_lt hj]
    have e : ((fun k => decide ((k + j) % m = rest)) ∘ Nat.succ) = fun k => decide ((k + (j + 1) % m) % m = rest) := by
      funext k
      show decide ((k + 1 + j) % m = rest) = _
      rw [Nat.add_mod_mod, show k + 1 + j = k + (j + 1) by omega]
    rw [e]
    by_cases h : j = rest
    · simp [h, Function.comp_def]
    · simp [h, Function.comp_def]
theorem pick_len {m rest : Nat} : ∀ (w : List Nat) (j : Nat), (pick m rest j w).length ≤ w.length
  | [], _ => Nat.le_refl _
  | a :: w, j => by
    have := pick_len (m := m) (rest := rest) w ((j + 1) % m)
    show (if j = rest then a :: pick m rest ((j + 1) % m) w else pick m rest ((j + 1) % m) w).length ≤ _
    split
    · simp; omega
    · simp; omega
theorem pick_mem {m rest a : Nat} : ∀ (w : List Nat) (j : Nat), a ∈ pick m rest j w → a ∈ w
  | [], _, h => h
  | b :: w, j, h => by
    have h : a ∈ (if j = rest then b :: pick m rest ((j + 1) % m) w else pick m rest ((j + 1) % m) w) := h
    split at h
    · rcases List.mem_cons.mp h with rfl | h
      · simp
      · exact List.mem_cons_of_mem _ (pick_mem w _ h)
    · exact List.mem_cons_of_mem _ (pick_mem w _ h)
def powT (n : Nat) (A : List (List Rat)) : Nat → List (List Rat)
  | 0 => eyeM n
  | k + 1 => (powT n A k).map fun l => rowBy l A
def sevM (M : Mach) (n k : Nat) : Mach := ⟨M.letters, M.start, M.steps.map fun A => powT n A k, M.fin⟩
theorem pow_sq {n : Nat} (h1 : 1 ≤ n) {A : List (List Rat)} (hA : Sq n A) : ∀ k, Sq n (powT n A k)
  | 0 => eye_sq
  | k + 1 => ⟨by show (List.map _ _).length = n; rw [List.length_map]; exact (pow_sq h1 hA k).1, fun l ml => by
    obtain ⟨r, _, rfl⟩ := List.mem_map.mp ml
    exact rowBy_len (hA.rect h1)⟩
theorem pow_dg {n : Nat} (h1 : 1 ≤ n) (hn : n ≤ 64) {A : List (List Rat)} (hA : Sq n A) (dA : ∀ l ∈ A, ∀ x ∈ l, Dg 12 1 x) : ∀ k, ∀ l ∈ powT n A k, ∀ x ∈ l, Dg 12 (2 * k) x
  | 0 => eyeM_dg (by decide)
  | k + 1 => fun l ml => by
    obtain ⟨r, mr, rfl⟩ := List.mem_map.mp ml
    have := rowBy_dg (by decide) (hA.rect h1) (pow_dg h1 hn hA dA k r mr) dA (by rw [(pow_sq h1 hA k).2 r mr]; exact hn)
    exact this
theorem pow_dgm {n : Nat} (h1 : 1 ≤ n) {A : List (List Rat)} (hA : Sq n A) (dA : ∀ l ∈ A, ∀ x ∈ l, DgM 12 1 1 x) : ∀ k, ∀ l ∈ powT n A k, ∀ x ∈ l, DgM 12 k (n ^ k) x
  | 0 => fun l ml x mx => (eyeM_dg (N := 12) (d := 0) (by decide) l ml x mx).one
  | k + 1 => fun l ml x mx => by
    obtain ⟨r, mr, rfl⟩ := List.mem_map.mp ml
    have := rowBy_M (hA.rect h1) (pow_dgm h1 hA dA k r mr) dA x mx
    rw [(pow_sq h1 hA k).2 r mr, Nat.mul_one, Nat.mul_comm, ← Nat.pow_succ] at this
    exact this
def rowPow (A : List (List Rat)) : Nat → List Rat → List Rat
  | 0, r => r
  | k + 1, r => rowBy (rowPow A k r) A
theorem rowBy_pow {n : Nat} (h1 : 1 ≤ n) {A : List (List Rat)} (hA : Sq n A) {r : List Rat} (hr : r.length = n) : ∀ k, rowBy r (powT n A k) = rowPow A k r
  | 0 => rowBy_eye h1 hr
  | k + 1 => by
    have := (rowBy_assoc h1 (pow_sq h1 hA k) hA hr).2
    rw [show rowBy r (powT n A (k + 1)) = rowBy (rowBy r (powT n A k)) A from this, rowBy_pow h1 hA hr k]
    rfl
section
variable {n : Nat} {M : Mach}
theorem reach_rep (a : Nat) : ∀ (k : Nat) (r : List Rat), reachF M r (List.replicate k a) = rowPow (M.tab a) k r
  | 0, r => rfl
  | k + 1, r => by
    have e : List.replicate (k + 1) a = List.replicate k a ++ [a] := by rw [List.replicate_succ']
    rw [e]
    unfold reachF
    rw [List.foldl_append]
    have := reach_rep a k r
    unfold reachF at this
    rw [this]
    rfl
theorem from_app (r : List Rat) (v w : List Nat) : fromR M r (v ++ w) = fromR M (reachF M r v) w := by
  unfold fromR reachF
  rw [List.foldl_append]
theorem sev_tab {d N k a : Nat} (K : Mc N d n M) (ha : a ∈ M.letters) : (sevM M n k).tab a = powT n (M.tab a) k := by
  have h2 : ixL M a < M.steps.length := by rw [K.lt]; exact ixL_lt ha
  show (M.steps.map fun A => powT n A k).getD (ixL M a) [] = powT n (M.steps.getD (ixL M a) []) k
  simp [h2]
theorem sev_from {d N k : Nat} (K : Mc N d n M) : ∀ (w : List Nat) (r : List Rat), (∀ a ∈ w, a ∈ M.letters) → r.length = n → fromR (sevM M n k) r w = fromR M r (w.flatMap fun a => List.replicate k a)
  | [], r, _, _ => rfl
  | a :: w, r, hw, hr => by
    have ha := hw a (by simp)
    have hA := tab_sq K ha
    have n1 := K.n1
    rw [from_cons, sev_tab K ha, List.flatMap_cons, from_app, reach_rep, ← rowBy_pow n1 hA hr]
    exact sev_from K w _ (fun b m => hw b (by simp [m])) (rowBy_len ((pow_sq n1 hA k).rect n1))
theorem sev_ok {k : Nat} (K : Mc 12 1 n M) : Mc 12 (2 * k + 1) n (sevM M n k) where
  n1 := K.n1
  n2 := K.n2
  ls := K.ls
  lf := K.lf
  lt := by show (M.steps.map _).length = _; rw [List.length_map]; exact K.lt
  tb := fun t mt => by
    obtain ⟨A, mA, rfl⟩ := List.mem_map.mp mt
    exact pow_sq K.n1 (K.tb A mA) k
  nd := K.nd
  ll := K.ll
  ds := fun x m => (K.ds x m).mono (by decide) (by omega)
  df := fun x m => (K.df x m).mono (by decide) (by omega)
  dt := fun t mt l ml x mx => by
    obtain ⟨A, mA, rfl⟩ := List.mem_map.mp mt
    exact (pow_dg K.n1 K.n2 (K.tb A mA) (K.dt A mA) k l ml x mx).mono (by decide) (by omega)
theorem sev_okM {k : Nat} (K : Mc 12 1 n M) (hn : n ≤ 3) (hk : k ≤ 4) : McM 12 1 4 81 n (sevM M n k) where
  n1 := K.n1
  n2 := K.n2
  ls := K.ls
  lf := K.lf
  lt := by show (M.steps.map _).length = _; rw [List.length_map]; exact K.lt
  tb := fun t mt => by
    obtain ⟨A, mA, rfl⟩ := List.mem_map.mp mt
    exact pow_sq K.n1 (K.tb A mA) k
  ds := fun x m => (K.ds x m).one
  df := fun x m => (K.df x m).one
  dt := fun t mt l ml x mx => by
    obtain ⟨A, mA, rfl⟩ := List.mem_map.mp mt
    have h := pow_dgm K.n1 (K.tb A mA) (fun l ml x mx => (K.dt A mA l ml x mx).one) k l ml x mx
    have hb : n ^ k ≤ 3 ^ 4 := Nat.le_trans (Nat.pow_le_pow_left hn k) (Nat.pow_le_pow_right (by decide) hk)
    exact (h.le hb).mono (by decide) hk
theorem M_okM (K : Mc 12 1 n M) : McM 12 1 1 1 n M where
  n1 := K.n1
  n2 := K.n2
  ls := K.ls
  lf := K.lf
  lt := K.lt
  tb := K.tb
  ds := fun x m => (K.ds x m).one
  df := fun x m => (K.df x m).one
  dt := fun t mt l ml x mx => (K.dt t mt l ml x mx).one
end
end K84
namespace K84
open Ev
open PySem (sizeLine)
theorem zmulL {xs : List T} {n : Nat} (h : xs.length ≤ 100) (hn : n ≤ 100) : binV .mul (.lst xs) (.int (n : Nat)) = some (.lst (List.replicate n xs).flatten) := by
  have h1 : ((n : Int)).natAbs < 2 ^ 63 := by simp; omega
  have h2 : xs.length * ((n : Int)).toNat ≤ sizeLine := le_size (by
    rw [Int.toNat_natCast]
    have := Nat.mul_le_mul h hn
    omega)
  simp only [binV, if_pos (And.intro h1 h2)]
  simp
theorem rep_flat {α : Type} {l : List α} : ∀ m : Nat, (List.replicate m l).flatten = (List.range m).flatMap fun _ => l
  | 0 => rfl
  | m + 1 => by
    rw [List.range_succ, List.flatMap_append, List.replicate_succ', List.flatten_append, rep_flat m]
    simp
theorem run_unit {s : Nat} (hs : s ≤ 64) (q : Nat) : CC (q + 3) n_unit_table [.int (s : Nat)] = some (tabT (eyeM s)) := by
  have hrg := rng_n (n := s) (by omega)
  have row : ∀ i, i < s → CC (q + 2) n_unit_row [.int (s : Nat), .int (i : Nat)] = some (rowT ((List.range s).map fun k => (((if i = k then 1 else 0 : Nat) : Int) : Rat))) := by
    intro i hi
    have wh : ∀ v : Int, CC (q + 1) n_whole [.int v] = some (fr ((v : Int) : Rat)) := fun v => by
      rw [show CC (q + 1) = runP GG FF (q + 1) from rfl, runP1 tab_whole _ _ rfl, fr_int]
      simp [f_whole]
    have hlc : (pden GG (CC (q + 1)) (.lc (.call n_whole [.blt .int [.cmp .eq (.var 2) (.var 1)]]) (.nm 2) (.rng [.mov 0]) [] [2])).v [some (.int (s : Nat)), some (.int (i : Nat)), none] = some (rowT ((List.range s).map fun k => (((if i = k then 1 else 0 : Nat) : Int) : Rat))) := by
      rw [pv_lc_all (l := List.range s) (fun i => T.int (i : Nat)) (fun k => fr (((if i = k then 1 else 0 : Nat) : Int) : Rat)) (by simp [hrg]) (fun k _ => by
        by_cases hk : i = k
        · subst hk
          have := wh 1
          simp [this]
        · have h2 : ¬ (k : Int) = (i : Int) := by omega
          have := wh 0
          simp [hk, h2, this]) (by simp; omega)]
      simp [rowT]
    rw [show CC (q + 2) = runP GG FF ((q + 1) + 1) from rfl, runP1 tab_unit_row _ _ rfl]
    simp [f_unit_row, -pv_lc, hlc]
  have outer : (pden GG (CC (q + 2)) (.lc (.call n_unit_row [.var 0, .var 1]) (.nm 1) (.rng [.var 0]) [] [1])).v [some (.int (s : Nat)), none] = some (tabT (eyeM s)) := by
    rw [pv_lc_all (l := List.range s) (fun i => T.int (i : Nat)) (fun i => rowT ((List.range s).map fun k => (((if i = k then 1 else 0 : Nat) : Int) : Rat))) (by simp [hrg]) (fun i hi => by
      have := row i (by simpa using hi)
      simp [this]) (by simp; omega)]
    simp [tabT, eyeM]
  rw [show CC (q + 3) = runP GG FF ((q + 2) + 1) from rfl, runP1 tab_unit_table _ _ rfl]
  simp [f_unit_table, -pv_lc, outer]
theorem zero_T {s : Nat} : rowT (zeroR s) = .lst (List.replicate s (fr 0)) := by simp [rowT, zeroR]
theorem blk_T {n m j : Nat} {r : List Rat} : rowT (blk n m j r) = .lst (List.replicate (n * j) (fr 0) ++ r.map fr ++ List.replicate (n * (m - 1 - j)) (fr 0)) := by
  simp [blk, rowT, zeroR, List.map_append]
theorem run_in_set {n m j : Nat} (hj : j < m) (hn : n ≤ 10) (hm : m ≤ 10) {r : List Rat} (hr : r.length = n) (q : Nat) : CC (q + 1) n_in_set [rowT r, .int (j : Nat), .int (m : Nat)] = some (rowT (blk n m j r)) := by
  have gz : GG [90, 69, 82, 79] = some (fr 0) := rfl
  have b1 : n * j ≤ 100 := Nat.mul_le_mul hn (show j ≤ 10 by omega)
  have b2 : n * (m - 1 - j) ≤ 100 := Nat.mul_le_mul hn (show m - 1 - j ≤ 10 by omega)
  have z1 := zmul (x := fr 0) (n := n * j) (by omega)
  have z2 := zmul (x := fr 0) (n := n * (m - 1 - j)) (by omega)
  have e1 : ((n * j : Nat) : Int) = (n : Int) * (j : Int) := by push_cast; rfl
  have e2 : ((n * (m - 1 - j) : Nat) : Int) = (n : Int) * ((m : Int) - 1 - (j : Int)) := by
    have : ((m - 1 - j : Nat) : Int) = (m : Int) - 1 - (j : Int) := by omega
    rw [← this]; push_cast; rfl
  rw [e1] at z1
  rw [e2] at z2
  have l1 : (n : Int).natAbs < 2 ^ 64 := by simp; omega
  have m1 : binV .mul (.int (n : Nat)) (.int (j : Nat)) = some (.int ((n : Int) * (j : Int))) := by
    simp only [binV]; rw [if_pos (.inr (.inl l1))]
  have m2 : binV .mul (.int (n : Nat)) (.int ((m : Int) - 1 - (j : Int))) = some (.int ((n : Int) * ((m : Int) - 1 - (j : Int)))) := by
    simp only [binV]; rw [if_pos (.inr (.inl l1))]
  have s1 : n * j + n ≤ sizeLine := le_size (by omega)
  have s2 : n * j + n + n * (m - 1 - j) ≤ sizeLine := le_size (by omega)
  rw [show CC (q + 1) = runP GG FF (q + 1) from rfl, runP1 tab_in_set _ _ rfl, blk_T]
  simp only [rowT]
  generalize hR : r.map fr = R
  have hRl : R.length = n := by rw [← hR]; simp [hr]
  have p1 : pSs GG (runP GG FF q) f_in_set.body (startP f_in_set.ns [.lst R, .int (j : Nat), .int (m : Nat)]) = some (.rt (.lst (List.replicate (n * j) (fr 0) ++ R ++ List.replicate (n * (m - 1 - j)) (fr 0)))) := by
    simp [f_in_set, -pv_bin, hRl, gz, pv_bin, z1, z2, m1, m2, s1, s2]
  rw [p1]
  rfl
end K84
namespace K84
open Ev
open PySem (sizeLine)
def b_ct : List Ev.S := [.set 5 (.ife (.cmp .eq (.var 4) (.var 1)) (.var 0) (.call n_unit_table [.blt .len [.var 0]])), .set 3 (.bin .add (.mov 3) (.lc (.call n_in_set [.var 6, .bin .mod (.bin .add (.var 4) (.int 1)) (.var 2), .var 2]) (.nm 6) (.mov 5) [] [6]))]
theorem mod_ok {k m : Nat} (hm : 1 ≤ m) : binV .mod (.int ((k : Int) + 1)) (.int (m : Nat)) = some (.int (((k + 1) % m : Nat) : Int)) := by
  have h : (0 : Int) < (m : Int) := by omega
  simp only [binV, if_pos h]
  congr 2
theorem ch_len {n m rest k : Nat} {A : List (List Rat)} (hA : Sq n A) : ((if k = rest then A else eyeM n).map (blk n m ((k + 1) % m))).length = n := by
  rw [List.length_map]; exact (ch_sq (m := m) hA).1
theorem run_ct {n m rest : Nat} (hm : 1 ≤ m) (hm10 : m ≤ 10) (hn : n ≤ 10) {A : List (List Rat)} (hA : Sq n A) (q : Nat) : CC (q + 4) n_chosen_table [tabT A, .int (rest : Nat), .int (m : Nat)] = some (tabT (chT n m rest A)) := by
  have hrm := rng_n (n := m) (by omega)
  have u := run_unit (s := n) (by omega) q
  obtain ⟨s', e⟩ := for_flat (G := GG) (C := CC (q + 3)) (σ := Option T × Option T) (tg := 4) (body := b_ct) (n := m) (fun k => ((if k = rest then A else eyeM n).map (blk n m ((k + 1) % m))).map rowT) (fun acc s => [some (tabT A), some (.int (rest : Nat)), some (.int (m : Nat)), some (.lst acc), s.1, s.2, none]) (fun k s hk => by
    have hB := ch_sq (m := m) (rest := rest) (k := k) hA
    have hf : (k + 1) % m < m := Nat.mod_lt _ (by omega)
    have accl : ((List.range k).flatMap fun k => ((if k = rest then A else eyeM n).map (blk n m ((k + 1) % m))).map rowT).length = n * k := flat_len_eq (fun k => by rw [List.length_map, ch_len hA]) k
    have nk : n * k ≤ 100 := Nat.mul_le_mul hn (show k ≤ 10 by omega)
    have gl : (((if k = rest then A else eyeM n).map (blk n m ((k + 1) % m))).map rowT).length = n := by rw [List.length_map, ch_len hA]
    generalize ((List.range k).flatMap fun k => ((if k = rest then A else eyeM n).map (blk n m ((k + 1) % m))).map rowT) = acc at accl ⊢
    have md := mod_ok (k := k) hm
    have hlc : (pden GG (CC (q + 3)) (.lc (.call n_in_set [.var 6, .bin .mod (.bin .add (.var 4) (.int 1)) (.var 2), .var 2]) (.nm 6) (.mov 5) [] [6])).v [some (tabT A), some (.int (rest : Nat)), some (.int (m : Nat)), some (.lst acc), some (.int (k : Nat)), some (tabT (if k = rest then A else eyeM n)), none] = some (.lst (((if k = rest then A else eyeM n).map (blk n m ((k + 1) % m))).map rowT)) := by
      generalize (if k = rest then A else eyeM n) = B at hB
      rw [pv_lc_all (l := B) rowT (fun r => rowT (blk n m ((k + 1) % m) r)) (by simp [tabT]) (fun r mr => by
        have := run_in_set hf hn hm10 (hB.2 r mr) (q + 2)
        generalize rowT r = rr at *
        generalize (k + 1) % m = f at *
        simp [-pv_bin, pv_bin, md, this]) (by rw [hB.1]; omega)]
      simp
    refine ⟨(some (.int (k : Nat)), some (tabT (if k = rest then A else eyeM n))), ?_⟩
    have i5 : (pden GG (CC (q + 3)) (.ife (.cmp .eq (.var 4) (.var 1)) (.var 0) (.call n_unit_table [.blt .len [.var 0]]))).v [some (tabT A), some (.int (rest : Nat)), some (.int (m : Nat)), some (.lst acc), some (.int (k : Nat)), s.2, none] = some (tabT (if k = rest then A else eyeM n)) := by
      by_cases h : k = rest
      · subst h; simp
      · have h' : ¬ (k : Int) = (rest : Int) := by omega
        have la : (pden GG (CC (q + 3)) (.blt .len [.var 0])).v [some (tabT A), some (.int (rest : Nat)), some (.int (m : Nat)), some (.lst acc), some (.int (k : Nat)), s.2, none] = some (.int (n : Nat)) := by simp [tabT, hA.1]
        generalize tabT A = TA at *
        simp [h, h', -pv_blt, la, u]
    generalize (((if k = rest then A else eyeM n).map (blk n m ((k + 1) % m))).map rowT) = gk at *
    generalize tabT A = TA at *
    generalize tabT (if k = rest then A else eyeM n) = TB at *
    have z : acc.length + gk.length ≤ sizeLine := le_size (by omega)
    rw [b_ct]
    simp only [pbind_nm]
    simp [-pv_lc, i5, hlc, z]) (none, none)
  have er : tabT (chT n m rest A) = .lst ((List.range m).flatMap fun k => ((if k = rest then A else eyeM n).map (blk n m ((k + 1) % m))).map rowT) := by
    unfold tabT chT
    rw [List.map_flatMap]
  rw [show CC (q + 4) = runP GG FF ((q + 3) + 1) from rfl, runP1 tab_chosen_table _ _ rfl, er]
  generalize ((List.range m).flatMap fun k => ((if k = rest then A else eyeM n).map (blk n m ((k + 1) % m))).map rowT) = LL at *
  unfold b_ct at e
  simp only [pbind_nm] at e
  generalize tabT A = TA at *
  simp [f_chosen_table, -pv_lc, hrm, e]
section
variable {d n : Nat} {M : Mach}
theorem run_chosen {m rest : Nat} (hm : 1 ≤ m) (hm10 : m ≤ 10) (hn : n ≤ 10) (K : Mc 12 d n M) (q : Nat) : CC (q + 5) n_chosen [machT M, .int (rest : Nat), .int (m : Nat)] = some (machT (chM M n m rest)) := by
  have l2 := K.ll
  have hlc : ∀ a1 s3 s4 s6 s7 s8, (pden GG (CC (q + 4)) (.lc (.call n_chosen_table [.var 8, .var 1, .var 2]) (.nm 8) (.mov 5) [] [8])).v [a1, some (.int (rest : Nat)), some (.int (m : Nat)), s3, s4, some (.lst (M.steps.map tabT)), s6, s7, s8] = some (.lst ((M.steps.map (chT n m rest)).map tabT)) := by
    intro a1 s3 s4 s6 s7 s8
    rw [pv_lc_all (l := M.steps) tabT (fun A => tabT (chT n m rest A)) (by simp) (fun A mA => by
      have := run_ct (rest := rest) hm hm10 hn (K.tb A mA) q
      simp [this]) (by rw [K.lt]; omega)]
    simp
  have hs := run_in_set (n := n) (m := m) (j := 0) (by omega) hn hm10 K.ls (q + 3)
  have z := zmulL (xs := M.fin.map fr) (n := m) (by rw [List.length_map, K.lf]; omega) (by omega)
  have hm' : machT M = .tup [.str M.letters, rowT M.start, .lst (M.steps.map tabT), rowT M.fin] := rfl
  have er : machT (chM M n m rest) = .tup [.str M.letters, rowT (blk n m 0 M.start), .lst ((M.steps.map (chT n m rest)).map tabT), .lst (List.replicate m (M.fin.map fr)).flatten] := by
    rw [rep_flat, ← List.map_flatMap]
    rfl
  rw [show CC (q + 5) = runP GG FF ((q + 4) + 1) from rfl, runP1 tab_chosen _ _ rfl, er, hm']
  have lf : (pden GG (CC (q + 4)) (.blt .list [.mov 6])).v [some (T.tup [.str M.letters, rowT M.start, .lst (M.steps.map tabT), rowT M.fin]), some (.int (rest : Nat)), some (.int (m : Nat)), some (.str M.letters), some (rowT M.start), some (.lst (M.steps.map tabT)), some (rowT M.fin), some (.lst ((M.steps.map (chT n m rest)).map tabT)), none] = some (.lst (M.fin.map fr)) := by simp [rowT]
  generalize (M.steps.map (chT n m rest)).map tabT = RM at *
  generalize M.steps.map tabT = MS at *
  generalize rowT M.start = st at *
  generalize rowT M.fin = fi at *
  simp at hs
  simp [f_chosen, -pv_lc, -pv_blt, hlc, hs, lf, z]
end
end K84
namespace K84
open Ev
open PySem (sizeLine)
def b_l1 : List Ev.S := [.set 15 (.ix (.ix (.lst [.var 8, .var 10]) (.blt .int [.cmp .eq (.var 12) (.var 1)])) (.mov 14)), .app 11 [] (.bin .add (.bin .add (.call n__law_zeros [.bin .mul (.var 7) (.var 13)]) (.mov 15)) (.call n__law_zeros [.bin .mul (.var 7) (.bin .sub (.bin .sub (.var 2) (.int 1)) (.var 13))]))]
def b_l2 : List Ev.S := [.set 13 (.bin .mod (.blt .int [.bin .add (.var 12) (.int 1)]) (.var 2)), .for_ (.nm 14) (.rng [.var 7]) b_l1]
def b_l3 : List Ev.S := [.set 11 (.lst []), .for_ (.nm 12) (.rng [.var 2]) b_l2, .app 9 [] (.mov 11)]
/-- the frame -/
def envC (mm : T) (rest m n : Nat) (l st : T) (MS : List T) (fi s9 s10 s11 s12 s13 s14 s15 : Option T) : PE := [some mm, some (.int (rest : Nat)), some (.int (m : Nat)), some l, some st, some (.lst MS), fi, some (.int (n : Nat)), some (tabT (eyeM n)), s9, s10, s11, s12, s13, s14, s15]
section
variable {mm l st : T} {MS : List T} {fi s9 : Option T} {n m rest : Nat}
theorem law_row (hn : n ≤ 10) (hm10 : m ≤ 10) {k : Nat} (hk : k < m) {A : List (List Rat)} (hA : Sq n A) {i : Nat} (hi : i < n) (acc : List T) (hacc : acc.length ≤ 100) (s15 : Option T) (q : Nat) : pSs GG (CC (q + 1)) b_l1 (envC mm rest m n l st MS fi s9 (some (tabT A)) (some (.lst acc)) (some (.int (k : Nat))) (some (.int (((k + 1) % m : Nat) : Int))) (some (.int (i : Nat))) s15) = some (.nx (envC mm rest m n l st MS fi s9 (some (tabT A)) (some (.lst (acc ++ [rowT (blk n m ((k + 1) % m) ((if k = rest then A else eyeM n).getD i []))]))) (some (.int (k : Nat))) (some (.int (((k + 1) % m : Nat) : Int))) (some (.int (i : Nat))) (some (rowT ((if k = rest then A else eyeM n).getD i []))))) := by
  have hf : (k + 1) % m < m := Nat.mod_lt _ (by omega)
  have e0 : ∀ s15, (pden GG (CC (q + 1)) (.ix (.ix (.lst [.var 8, .var 10]) (.blt .int [.cmp .eq (.var 12) (.var 1)])) (.mov 14))).v (envC mm rest m n l st MS fi s9 (some (tabT A)) (some (.lst acc)) (some (.int (k : Nat))) (some (.int (((k + 1) % m : Nat) : Int))) (some (.int (i : Nat))) s15) = some (rowT ((if k = rest then A else eyeM n).getD i [])) := by
    intro s15
    by_cases h : k = rest
    · subst h
      have a := tab_atI (m := A) (i := i) (by rw [hA.1]; exact hi)
      simp only [envC, tabT]
      generalize A.map rowT = AR at *
      simp [-atI_ofNat, -List.getD_eq_getElem?_getD, a]
    · have h' : ¬ (k : Int) = (rest : Int) := by omega
      have a := tab_atI (m := eyeM n) (i := i) (by rw [eye_sq.1]; exact hi)
      rw [if_neg h]
      simp only [envC, tabT]
      generalize (eyeM n).map rowT = AR at *
      generalize (eyeM n).getD i [] = rr at *
      simp [-atI_ofNat, h', a]
  have hB := ((ch_sq (m := m) (rest := rest) (k := k) hA).at_ hi).1
  generalize (if k = rest then A else eyeM n).getD i [] = r at *
  generalize (k + 1) % m = f at *
  have b1 : n * f ≤ 100 := Nat.mul_le_mul hn (show f ≤ 10 by omega)
  have b2 : n * (m - 1 - f) ≤ 100 := Nat.mul_le_mul hn (show m - 1 - f ≤ 10 by omega)
  have z1 : CC (q + 1) n__law_zeros [.int ((n * f : Nat) : Int)] = some (rowT (zeroR (n * f))) := pun_zeros (G := GG) (F := FF) rfl (by omega) q
  have z2 : CC (q + 1) n__law_zeros [.int ((n * (m - 1 - f) : Nat) : Int)] = some (rowT (zeroR (n * (m - 1 - f)))) := pun_zeros (G := GG) (F := FF) rfl (by omega) q
  have e1 : ((n * f : Nat) : Int) = (n : Int) * (f : Int) := by push_cast; rfl
  have e2 : ((n * (m - 1 - f) : Nat) : Int) = (n : Int) * ((m : Int) - 1 - (f : Int)) := by
    have : ((m - 1 - f : Nat) : Int) = (m : Int) - 1 - (f : Int) := by omega
    rw [← this]; push_cast; rfl
  rw [e1] at z1
  rw [e2] at z2
  have l1 : (n : Int).natAbs < 2 ^ 64 := by simp; omega
  have m1 : binV .mul (.int (n : Nat)) (.int (f : Nat)) = some (.int ((n : Int) * (f : Int))) := by
    simp only [binV]; rw [if_pos (.inr (.inl l1))]
  have m2 : binV .mul (.int (n : Nat)) (.int ((m : Int) - 1 - (f : Int))) = some (.int ((n : Int) * ((m : Int) - 1 - (f : Int)))) := by
    simp only [binV]; rw [if_pos (.inr (.inl l1))]
  have s1 : n * f + n ≤ sizeLine := le_size (by omega)
  have s2 : n * f + n + n * (m - 1 - f) ≤ sizeLine := le_size (by omega)
  have s3 : acc.length < sizeLine := lt_size (by omega)
  rw [blk_T]
  rw [zero_T] at z1 z2
  simp only [envC, rowT] at e0 ⊢
  generalize hR : r.map fr = R at *
  have hRl : R.length = n := by rw [← hR]; simp [hB]
  generalize tabT A = TA at *
  generalize tabT (eyeM n) = TE at *
  simp [b_l1, -pv_ix, e0, hRl, z1, z2, m1, m2, s1, s2, s3]
theorem law_set (hn : n ≤ 10) (hm10 : m ≤ 10) {k : Nat} (hk : k < m) {A : List (List Rat)} (hA : Sq n A) (acc : List T) (hacc : acc.length ≤ 80) (s13 s14 s15 : Option T) (q : Nat) : ∃ s14' s15', pSs GG (CC (q + 1)) b_l2 (envC mm rest m n l st MS fi s9 (some (tabT A)) (some (.lst acc)) (some (.int (k : Nat))) s13 s14 s15) = some (.nx (envC mm rest m n l st MS fi s9 (some (tabT A)) (some (.lst (acc ++ ((if k = rest then A else eyeM n).map (blk n m ((k + 1) % m))).map rowT))) (some (.int (k : Nat))) (some (.int (((k + 1) % m : Nat) : Int))) s14' s15')) := by
  have hrn := rng_n (n := n) (by omega)
  obtain ⟨s', e⟩ := for_build (G := GG) (C := CC (q + 1)) (σ := Option T × Option T) (tg := 14) (body := b_l1) (n := n) (fun i => rowT (blk n m ((k + 1) % m) ((if k = rest then A else eyeM n).getD i []))) (fun a s => envC mm rest m n l st MS fi s9 (some (tabT A)) (some (.lst (acc ++ a))) (some (.int (k : Nat))) (some (.int (((k + 1) % m : Nat) : Int))) s.1 s.2) (fun i s hi => by
    have := law_row (mm := mm) (l := l) (st := st) (MS := MS) (fi := fi) (s9 := s9) (rest := rest) hn hm10 hk hA hi (acc ++ (List.range i).map fun i => rowT (blk n m ((k + 1) % m) ((if k = rest then A else eyeM n).getD i []))) (by simp; omega) s.2 q
    refine ⟨(some (.int (i : Nat)), some (rowT ((if k = rest then A else eyeM n).getD i []))), ?_⟩
    rw [pbind_nm, if_pos (by simp [envC])]
    rw [List.append_assoc] at this
    exact this) (s14, s15)
  have hB := ch_sq (m := m) (rest := rest) (k := k) hA
  have er : ((if k = rest then A else eyeM n).map (blk n m ((k + 1) % m))).map rowT = (List.range n).map fun i => rowT (blk n m ((k + 1) % m) ((if k = rest then A else eyeM n).getD i [])) := by
    rw [List.map_map, map_range [] hB.1]
    rfl
  rw [← er] at e
  have md := mod_ok (k := k) (m := m) (by omega)
  refine ⟨s'.1, s'.2, ?_⟩
  generalize ((if k = rest then A else eyeM n).map (blk n m ((k + 1) % m))).map rowT = gk at *
  generalize (k + 1) % m = f at *
  simp only [envC, List.append_nil, pbind_nm] at e ⊢
  generalize tabT A = TA at *
  generalize tabT (eyeM n) = TE at *
  simp [b_l2, -pv_bin, pv_bin, md, hrn, e]
theorem law_tab (hn : n ≤ 10) (hm : 1 ≤ m) (hm8 : m ≤ 8) {A : List (List Rat)} (hA : Sq n A) (tabs : List T) (ht : tabs.length ≤ 100) (s11 s12 s13 s14 s15 : Option T) (q : Nat) : ∃ s11' s12' s13' s14' s15', pSs GG (CC (q + 1)) b_l3 (envC mm rest m n l st MS fi (some (.lst tabs)) (some (tabT A)) s11 s12 s13 s14 s15) = some (.nx (envC mm rest m n l st MS fi (some (.lst (tabs ++ [tabT (chT n m rest A)]))) (some (tabT A)) s11' s12' s13' s14' s15')) := by
  have hrm := rng_n (n := m) (by omega)
  obtain ⟨s', e⟩ := for_flat (G := GG) (C := CC (q + 1)) (σ := Option T × Option T × Option T × Option T) (tg := 12) (body := b_l2) (n := m) (fun k => ((if k = rest then A else eyeM n).map (blk n m ((k + 1) % m))).map rowT) (fun a s => envC mm rest m n l st MS fi (some (.lst tabs)) (some (tabT A)) (some (.lst a)) s.1 s.2.1 s.2.2.1 s.2.2.2) (fun k s hk => by
    have accl : ((List.range k).flatMap fun k => ((if k = rest then A else eyeM n).map (blk n m ((k + 1) % m))).map rowT).length = n * k := flat_len_eq (fun k => by rw [List.length_map, ch_len hA]) k
    have nk : n * k ≤ 80 := Nat.mul_le_mul hn (show k ≤ 8 by omega)
    obtain ⟨t14, t15, e⟩ := law_set (mm := mm) (l := l) (st := st) (MS := MS) (fi := fi) (s9 := some (.lst tabs)) (rest := rest) hn (by omega) hk hA ((List.range k).flatMap fun k => ((if k = rest then A else eyeM n).map (blk n m ((k + 1) % m))).map rowT) (by omega) s.2.1 s.2.2.1 s.2.2.2 q
    refine ⟨(some (.int (k : Nat)), some (.int (((k + 1) % m : Nat) : Int)), t14, t15), ?_⟩
    rw [pbind_nm, if_pos (by simp [envC])]
    exact e) (s12, s13, s14, s15)
  have er : tabT (chT n m rest A) = .lst ((List.range m).flatMap fun k => ((if k = rest then A else eyeM n).map (blk n m ((k + 1) % m))).map rowT) := by
    unfold tabT chT
    rw [List.map_flatMap]
  rw [er]
  generalize ((List.range m).flatMap fun k => ((if k = rest then A else eyeM n).map (blk n m ((k + 1) % m))).map rowT) = LL at *
  have z : tabs.length < sizeLine := lt_size (by omega)
  refine ⟨some (.lst LL), s'.1, s'.2.1, s'.2.2.1, s'.2.2.2, ?_⟩
  simp only [envC, pbind_nm] at e ⊢
  generalize tabT A = TA at *
  generalize tabT (eyeM n) = TE at *
  simp [b_l3, hrm, e, z]
end
theorem flat_one {α β : Type} {g : α → β} : ∀ l : List α, (l.flatMap fun a => [g a]) = l.map g
  | [] => rfl
  | a :: l => by rw [List.flatMap_cons, flat_one l]; rfl
section
variable {d n : Nat} {M : Mach}
theorem run_lchosen {m rest : Nat} (hm : 1 ≤ m) (hm8 : m ≤ 8) (hn : n ≤ 10) (K : Mc 12 d n M) (q : Nat) : CC (q + 2) n__law_chosen [machT M, .int (rest : Nat), .int (m : Nat)] = some (machT (chM M n m rest)) := by
  have l2 := K.ll
  obtain ⟨s', e⟩ := for_flatL (G := GG) (C := CC (q + 1)) (σ := Option T × Option T × Option T × Option T × Option T × Option T) (tg := .nm 10) (body := b_l3) tabT (fun A => [tabT (chT n m rest A)]) (fun a s => envC (machT M) rest m n (.str M.letters) (rowT M.start) (M.steps.map tabT) (some (rowT M.fin)) (some (.lst a)) s.1 s.2.1 s.2.2.1 s.2.2.2.1 s.2.2.2.2.1 s.2.2.2.2.2) M.steps (fun pre A post s hl => by
    have mA : A ∈ M.steps := by rw [hl]; simp
    have pl : pre.length ≤ 64 := by
      have := congrArg List.length hl
      rw [K.lt] at this
      simp at this; omega
    obtain ⟨t11, t12, t13, t14, t15, e⟩ := law_tab (mm := machT M) (l := .str M.letters) (st := rowT M.start) (MS := M.steps.map tabT) (fi := some (rowT M.fin)) (rest := rest) hn hm hm8 (K.tb A mA) (pre.flatMap fun A => [tabT (chT n m rest A)]) (by rw [flat_one, List.length_map]; omega) s.2.1 s.2.2.1 s.2.2.2.1 s.2.2.2.2.1 s.2.2.2.2.2 q
    refine ⟨(some (tabT A), t11, t12, t13, t14, t15), ?_⟩
    rw [pbind_nm, if_pos (by simp [envC])]
    exact e) (none, none, none, none, none, none)
  have ef : (M.steps.flatMap fun A => [tabT (chT n m rest A)]) = (M.steps.map (chT n m rest)).map tabT := by rw [flat_one, List.map_map]; rfl
  rw [ef] at e
  have b2 : n * (m - 1) ≤ 100 := Nat.mul_le_mul hn (show m - 1 ≤ 10 by omega)
  have z1 : CC (q + 1) n__law_zeros [.int ((n * (m - 1) : Nat) : Int)] = some (rowT (zeroR (n * (m - 1)))) := pun_zeros (G := GG) (F := FF) rfl (by omega) q
  have e2 : ((n * (m - 1) : Nat) : Int) = (n : Int) * ((m : Int) - 1) := by
    have : ((m - 1 : Nat) : Int) = (m : Int) - 1 := by omega
    rw [← this]; push_cast; rfl
  rw [e2, zero_T] at z1
  have on : CC (q + 1) n__law_ones [.int (n : Nat)] = some (tabT (eyeM n)) := pun_ones (G := GG) (F := FF) rfl (by omega) q
  have l1 : (n : Int).natAbs < 2 ^ 64 := by simp; omega
  have m2 : binV .mul (.int (n : Nat)) (.int ((m : Int) - 1)) = some (.int ((n : Int) * ((m : Int) - 1))) := by
    simp only [binV]; rw [if_pos (.inr (.inl l1))]
  have s2 : n + n * (m - 1) ≤ sizeLine := le_size (by omega)
  have z := zmulL (xs := M.fin.map fr) (n := m) (by rw [List.length_map, K.lf]; omega) (by omega)
  have hm' : machT M = .tup [.str M.letters, rowT M.start, .lst (M.steps.map tabT), rowT M.fin] := rfl
  have er : machT (chM M n m rest) = .tup [.str M.letters, .lst (M.start.map fr ++ List.replicate (n * (m - 1)) (fr 0)), .lst ((M.steps.map (chT n m rest)).map tabT), .lst (List.replicate m (M.fin.map fr)).flatten] := by
    rw [rep_flat, ← List.map_flatMap]
    show T.tup [_, rowT (blk n m 0 M.start), _, _] = _
    rw [blk_T]
    have e0 : n * 0 = 0 := rfl
    have e1 : m - 1 - 0 = m - 1 := rfl
    rw [e0, e1]
    rfl
  have hsl : (M.start.map fr).length = n := by rw [List.length_map]; exact K.ls
  rw [show CC (q + 2) = runP GG FF ((q + 1) + 1) from rfl, runP1 tab__law_chosen _ _ rfl, er]
  rw [hm'] at e ⊢
  unfold b_l3 b_l2 b_l1 at e
  simp only [envC, pbind_nm, rowT] at e z ⊢
  generalize (M.steps.map (chT n m rest)).map tabT = RM at *
  generalize M.steps.map tabT = MS at *
  generalize M.start.map fr = st at *
  generalize M.fin.map fr = fi at *
  generalize tabT (eyeM n) = TE at *
  simp [f__law_chosen, on, hsl, e, z, z1, m2, s2]
end
end K84
namespace K84
open Ev
open PySem (sizeLine)
theorem none_acc {k : Nat} : ((List.range k).map fun _ => T.non).length = k := by simp
/-- one table, each row by it so many times -/
theorem sev_rows {f : List Nat} {C : List Nat → List T → Option T} {n k : Nat} (hn : n ≤ 64) (hk : k ≤ 100) {A : List (List Rat)} (h1 : 1 ≤ n) (hA : Sq n A) (hby : ∀ j, j < k → ∀ r ∈ powT n A j, C f [rowT r, tabT A] = some (rowT (rowBy r A))) (a0 a1 a2 a3 a4 a5 a6 s9 : Option T) :
    ∃ s9', forP (fun x p => pbind (.nm 9) x p) (pSs GG C [.setc 8 (.call f [.var 10, .var 7]) (.nm 10) (.mov 8) [] [10]]) ((List.range k).map fun i => T.int (i : Nat)) [a0, a1, a2, a3, a4, a5, a6, some (tabT A), some (tabT (eyeM n)), s9, none] = some (.nx [a0, a1, a2, a3, a4, a5, a6, some (tabT A), some (tabT (powT n A k)), s9', none]) := by
  obtain ⟨s', e⟩ := for_build (G := GG) (C := C) (σ := Option T) (tg := 9) (body := [.setc 8 (.call f [.var 10, .var 7]) (.nm 10) (.mov 8) [] [10]]) (n := k) (fun _ => T.non) (fun acc s => [a0, a1, a2, a3, a4, a5, a6, some (tabT A), some (tabT (powT n A acc.length)), s, none]) (fun j s hj => by
    have S := pow_sq h1 hA j
    have hlc : (pden GG C (.lc (.call f [.var 10, .var 7]) (.nm 10) (.mov 8) [] [10])).v [a0, a1, a2, a3, a4, a5, a6, some (tabT A), some (tabT (powT n A j)), some (.int (j : Nat)), none] = some (tabT (powT n A (j + 1))) := by
      rw [pv_lc_all (l := powT n A j) rowT (fun r => rowT (rowBy r A)) (by simp [tabT]) (fun r mr => by
        have := hby j hj r mr
        generalize rowT r = rr at *
        generalize tabT A = TA at *
        simp [this]) (by rw [S.1]; omega)]
      simp [tabT, powT]
    refine ⟨some (.int (j : Nat)), ?_⟩
    rw [List.length_append, none_acc, List.length_singleton]
    generalize tabT A = TA at *
    generalize tabT (powT n A j) = TJ at *
    generalize tabT (powT n A (j + 1)) = TK at *
    simp [-pv_lc, hlc]) s9
  rw [none_acc] at e
  exact ⟨s', e⟩
section
variable {n : Nat} {M : Mach}
def b_s (f g : List Nat) (u : E) : List Ev.S := [.set 8 (.call g [.blt .len [u]]), .for_ (.nm 9) (.rng [.var 1]) [.setc 8 (.call f [.var 10, .var 7]) (.nm 10) (.mov 8) [] [10]], .app 6 [] (.mov 8)]
theorem sev_loop {f g : List Nat} {u : E} {C : List Nat → List T → Option T} {k : Nat} (hk : k ≤ 100) (K : Mc 12 1 n M) (hg : C g [.int (n : Nat)] = some (tabT (eyeM n))) (hu : ∀ A, Sq n A → ∀ s6 s8 s9, (pden GG C (.blt .len [u])).v [some (machT M), some (.int (k : Nat)), some (.str M.letters), some (rowT M.start), some (.lst (M.steps.map tabT)), some (rowT M.fin), s6, some (tabT A), s8, s9, none] = some (.int (n : Nat)))
    (hby : ∀ A ∈ M.steps, ∀ j, j < k → ∀ r ∈ powT n A j, C f [rowT r, tabT A] = some (rowT (rowBy r A))) : ∃ s7 s8 s9, forP (fun x p => pbind (.nm 7) x p) (pSs GG C (b_s f g u)) (M.steps.map tabT) [some (machT M), some (.int (k : Nat)), some (.str M.letters), some (rowT M.start), some (.lst (M.steps.map tabT)), some (rowT M.fin), some (.lst []), none, none, none, none] = some (.nx [some (machT M), some (.int (k : Nat)), some (.str M.letters), some (rowT M.start), some (.lst (M.steps.map tabT)), some (rowT M.fin), some (.lst ((M.steps.map fun A => powT n A k).map tabT)), s7, s8, s9, none]) := by
  have n2 := K.n2
  have l2 := K.ll
  have hrk := rng_n (n := k) (by omega)
  obtain ⟨s', e⟩ := for_flatL (G := GG) (C := C) (σ := Option T × Option T × Option T) (tg := .nm 7) (body := b_s f g u) tabT (fun A => [tabT (powT n A k)]) (fun a s => [some (machT M), some (.int (k : Nat)), some (.str M.letters), some (rowT M.start), some (.lst (M.steps.map tabT)), some (rowT M.fin), some (.lst a), s.1, s.2.1, s.2.2, none]) M.steps (fun pre A post s hl => by
    have mA : A ∈ M.steps := by rw [hl]; simp
    have pl : pre.length ≤ 64 := by
      have := congrArg List.length hl
      rw [K.lt] at this
      simp at this; omega
    have al : (pre.flatMap fun A => [tabT (powT n A k)]).length ≤ 64 := by rw [flat_one, List.length_map]; omega
    have hu' := hu A (K.tb A mA) (some (.lst (pre.flatMap fun A => [tabT (powT n A k)]))) s.2.1 s.2.2
    obtain ⟨t9, e⟩ := sev_rows (f := f) (C := C) (k := k) n2 hk K.n1 (K.tb A mA) (hby A mA) (some (machT M)) (some (.int (k : Nat))) (some (.str M.letters)) (some (rowT M.start)) (some (.lst (M.steps.map tabT))) (some (rowT M.fin)) (some (.lst (pre.flatMap fun A => [tabT (powT n A k)]))) s.2.2
    refine ⟨(some (tabT A), some (tabT (powT n A k)), t9), ?_⟩
    generalize (pre.flatMap fun A => [tabT (powT n A k)]) = acc at *
    have z : acc.length < sizeLine := lt_size (by omega)
    simp only [pbind_nm] at e
    generalize machT M = mm at *
    generalize M.steps.map tabT = MS at *
    generalize rowT M.start = st at *
    generalize rowT M.fin = fi at *
    generalize tabT (powT n A k) = TK at *
    generalize tabT A = TA at *
    generalize tabT (eyeM n) = TE at *
    simp [b_s, -pv_blt, hu', hg, hrk, e, z]) (none, none, none)
  have ef : (M.steps.flatMap fun A => [tabT (powT n A k)]) = (M.steps.map fun A => powT n A k).map tabT := by rw [flat_one, List.map_map]; rfl
  rw [ef] at e
  exact ⟨s'.1, s'.2.1, s'.2.2, e⟩
theorem run_sev {k : Nat} (hk : k ≤ 4) (K : Mc 12 1 n M) (q : Nat) : CC (q + 6) n_several_times [machT M, .int (k : Nat)] = some (machT (sevM M n k)) := by
  have n1 := K.n1
  have n2 := K.n2
  have un := run_unit (s := n) n2 (q + 2)
  obtain ⟨s7, s8, s9, e⟩ := sev_loop (f := n_row_by) (g := n_unit_table) (u := .var 7) (C := CC (q + 5)) (k := k) (by omega) K un (fun A hA s6 s8 s9 => by simp [tabT, hA.1]) (fun A mA j hj r mr => by
    have hA := K.tb A mA
    exact pby PR (G := GG) (F := FF) (N := 12) (by decide) (by decide) (d := 2 * j) (e := 1) (by omega) (Sq.rect n1 hA) (by omega) (pow_dg n1 n2 hA (K.dt A mA) j r mr) (K.dt A mA) (by rw [(pow_sq n1 hA j).2 r mr]; omega) (by rw [hA.1]; omega) q)
  have hm' : machT M = .tup [.str M.letters, rowT M.start, .lst (M.steps.map tabT), rowT M.fin] := rfl
  have er : machT (sevM M n k) = .tup [.str M.letters, rowT M.start, .lst ((M.steps.map fun A => powT n A k).map tabT), rowT M.fin] := rfl
  rw [show CC (q + 6) = runP GG FF ((q + 5) + 1) from rfl, runP1 tab_several_times _ _ rfl, er]
  rw [hm'] at e ⊢
  unfold b_s at e
  simp only [pbind_nm, rowT] at e ⊢
  generalize (M.steps.map fun A => powT n A k).map tabT = RM at *
  generalize M.steps.map tabT = MS at *
  generalize M.start.map fr = st at *
  generalize M.fin.map fr = fi at *
  simp [f_several_times, e]
theorem run_lsev {k : Nat} (hk : k ≤ 4) (K : Mc 12 1 n M) (q : Nat) : CC (q + 6) n__law_several [machT M, .int (k : Nat)] = some (machT (sevM M n k)) := by
  have n1 := K.n1
  have n2 := K.n2
  have on : CC (q + 5) n__law_ones [.int (n : Nat)] = some (tabT (eyeM n)) := pun_ones (G := GG) (F := FF) rfl (by omega) (q + 4)
  obtain ⟨s7, s8, s9, e⟩ := sev_loop (f := n__law_by) (g := n__law_ones) (u := .var 3) (C := CC (q + 5)) (k := k) (by omega) K on (fun A hA s6 s8 s9 => by simp [rowT, K.ls]) (fun A mA j hj r mr => by
    have hA := K.tb A mA
    exact lby LR rfl rfl (G := GG) (F := FF) (N := 12) (by decide) (by decide) (d := 2 * j) (e := 1) (by omega) (Sq.rect n1 hA) (by omega) (pow_dg n1 n2 hA (K.dt A mA) j r mr) (K.dt A mA) (by rw [(pow_sq n1 hA j).2 r mr, hA.1]; omega) (by rw [(pow_sq n1 hA j).2 r mr]; omega) (by rw [hA.1]; omega) q)
  have hm' : machT M = .tup [.str M.letters, rowT M.start, .lst (M.steps.map tabT), rowT M.fin] := rfl
  have er : machT (sevM M n k) = .tup [.str M.letters, rowT M.start, .lst ((M.steps.map fun A => powT n A k).map tabT), rowT M.fin] := rfl
  rw [show CC (q + 6) = runP GG FF ((q + 5) + 1) from rfl, runP1 tab__law_several _ _ rfl, er]
  rw [hm'] at e ⊢
  unfold b_s at e
  simp only [pbind_nm, rowT] at e ⊢
  generalize (M.steps.map fun A => powT n A k).map tabT = RM at *
  generalize M.steps.map tabT = MS at *
  generalize M.start.map fr = st at *
  generalize M.fin.map fr = fi at *
  simp [f__law_several, e]
end
end K84
namespace K84
open Ev
open PySem (sizeLine)
theorem joinN_nil : ∀ ss : List (List Nat), joinN [] ss = ss.flatten
  | [] => rfl
  | [x] => by simp [joinN]
  | x :: y :: ss => by
    have := joinN_nil (y :: ss)
    show x ++ ([] ++ joinN [] (y :: ss)) = _
    rw [this]; rfl
theorem strsV_map : ∀ ss : List (List Nat), strsV (ss.map T.str) = some ss
  | [] => rfl
  | x :: ss => by simp [strsV, strsV_map ss]
theorem meth_joinL {ss : List (List Nat)} (h : ss.flatten.length ≤ 100000) : methV .join (.str []) [.lst (ss.map T.str)] = some (.str ss.flatten) := by
  simp only [methV, strsV_map, Option.bind_some]
  rw [List.length_flatten] at h
  rw [if_pos (by simp; omega), joinN_nil]
theorem str_mul {c k : Nat} (hk : k ≤ 1000) : binV .mul (.str [c]) (.int (k : Nat)) = some (.str (List.replicate k c)) := by
  have h1 : ((k : Int)).natAbs < 2 ^ 62 ∧ [c].length * ((k : Int)).toNat ≤ 8388608 := by
    constructor
    · simp; omega
    · simp; omega
  simp only [binV, if_pos h1]
  simp
def envK (sc : T) (dr : Option T) (M : Mach) (ws : List (List Nat)) (m : Nat) (s7 s8 s9 s10 s11 s12 : Option T) : PE := [some sc, dr, some (.str M.letters), some (machT M), some (machT M), some (wordsT ws), some (.int (m : Nat)), s7, s8, s9, s10, s11, s12, none, none, none]
section
variable {n m : Nat} {M : Mach} {sc : T} {dr : Option T} {ws : List (List Nat)} {s7 s8 s9 s10 s11 s12 : Option T}
def b_t1 : List Ev.S := [.set 10 (.call n_chosen [.var 3, .var 7, .var 6]), .asr [.cmp .ne (.var 3) (.var 4)] 10 [] n__law_answer 8 []]
def b_w1 : List Ev.S := [.ite (.cmp .ne (.call n__law_worth [.var 8, .var 11]) (.call n__law_worth [.var 3, .meth .join (.str []) [.lc (.ix (.var 11) (.var 13)) (.nm 13) (.rng [.blt .len [.var 11]]) [.cmp .eq (.bin .mod (.blt .int [.var 13]) (.var 6)) (.var 7)] [13]]])) [.ret (.bl false)] []]
def b_t2 : List Ev.S := [.set 10 (.call n_several_times [.var 3, .var 12]), .asr [.cmp .ne (.var 3) (.var 4)] 10 [] n__law_answer 8 []]
def b_w2 : List Ev.S := [.ite (.cmp .ne (.call n__law_worth [.var 8, .var 11]) (.call n__law_worth [.var 3, .meth .join (.str []) [.lc (.bin .mul (.var 14) (.var 12)) (.nm 14) (.var 11) [] [14]]])) [.ret (.bl false)] []]
theorem t1_step {rest : Nat} (K : Mc 12 1 n M) (hn : n ≤ 3) (h1 : 1 ≤ M.letters.length) (hm : 1 ≤ m) (hm4 : m ≤ 4) : ∃ t10, pSs GG (CC 59) b_t1 (envK sc dr M ws m (some (.int (rest : Nat))) (some (machT (chM M n m rest))) s9 s10 s11 s12) = some (.nx (envK sc dr M ws m (some (.int (rest : Nat))) (some (machT (chM M n m rest))) s9 t10 s11 s12)) := by
  have nm : n * m ≤ 3 * 4 := Nat.mul_le_mul hn hm4
  have e1 : CC 59 n_chosen [machT M, .int (rest : Nat), .int (m : Nat)] = some (machT (chM M n m rest)) := run_chosen hm (by omega) (by omega) K 54
  obtain ⟨t1, a1⟩ := pun_answer (G := GG) (F := FF) rfl rfl (ch_ok (rest := rest) hm (by decide) (by omega) K) h1 52
  have a1 : CC 59 (0 :: n__law_answer) [machT (chM M n m rest), machT (chM M n m rest)] = some (.tup [.bl true, t1]) := a1
  have ne := dat_cmp_ne (K.dat (k := 0)) (by decide)
  refine ⟨some t1, ?_⟩
  unfold envK
  generalize machT M = mm at *
  generalize machT (chM M n m rest) = d1 at *
  simp [b_t1, e1, ne, pOwn, a1]
theorem t2_step {k : Nat} (K : Mc 12 1 n M) (h1 : 1 ≤ M.letters.length) (hk : k ≤ 4) : ∃ t10, pSs GG (CC 59) b_t2 (envK sc dr M ws m s7 (some (machT (sevM M n k))) s9 s10 s11 (some (.int (k : Nat)))) = some (.nx (envK sc dr M ws m s7 (some (machT (sevM M n k))) s9 t10 s11 (some (.int (k : Nat))))) := by
  have e1 : CC 59 n_several_times [machT M, .int (k : Nat)] = some (machT (sevM M n k)) := run_sev hk K 53
  obtain ⟨t1, a1⟩ := pun_answer (G := GG) (F := FF) rfl rfl (sev_ok (k := k) K) h1 52
  have a1 : CC 59 (0 :: n__law_answer) [machT (sevM M n k), machT (sevM M n k)] = some (.tup [.bl true, t1]) := a1
  have ne := dat_cmp_ne (K.dat (k := 0)) (by decide)
  refine ⟨some t1, ?_⟩
  unfold envK
  generalize machT M = mm at *
  generalize machT (sevM M n k) = d1 at *
  simp [b_t2, e1, ne, pOwn, a1]
theorem w1_step {rest : Nat} (K : Mc 12 1 n M) (hn : n ≤ 3) (hm : 1 ≤ m) (hm4 : m ≤ 4) {w : List Nat} (hw : ∀ a ∈ w, a ∈ M.letters) (hl : w.length ≤ 4) : pSs GG (CC 59) b_w1 (envK sc dr M ws m (some (.int (rest : Nat))) (some (machT (chM M n m rest))) s9 s10 (some (.str w)) s12) = some (.nx (envK sc dr M ws m (some (.int (rest : Nat))) (some (machT (chM M n m rest))) s9 s10 (some (.str w)) s12)) := by
  have nm : n * m ≤ 3 * 4 := Nat.mul_le_mul hn hm4
  have w1 : CC 59 n__law_worth [machT (chM M n m rest), .str w] = some (fr (worthM (chM M n m rest) w)) := lworth LM (by decide) (by decide) (ch_ok (rest := rest) hm (by decide) (by omega) K) hw (by omega) 52
  have pl := pick_len (m := m) (rest := rest) w 0
  have w2 : CC 59 n__law_worth [machT M, .str (pick m rest 0 w)] = some (fr (worthM M (pick m rest 0 w))) := lworth LM (by decide) (by decide) K (fun a ha => hw a (pick_mem w 0 ha)) (by omega) 52
  have eq : worthM (chM M n m rest) w = worthM M (pick m rest 0 w) := ch_from K w 0 M.start hw (by omega) K.ls
  rw [eq] at w1
  have hr := rng_n (n := w.length) (by omega)
  have hlc : (pden GG (CC 59) (.lc (.ix (.var 11) (.var 13)) (.nm 13) (.rng [.blt .len [.var 11]]) [.cmp .eq (.bin .mod (.blt .int [.var 13]) (.var 6)) (.var 7)] [13])).v (envK sc dr M ws m (some (.int (rest : Nat))) (some (machT (chM M n m rest))) s9 s10 (some (.str w)) s12) = some (.lst ((pick m rest 0 w).map fun c => T.str [c])) := by
    rw [pick_range w 0 (by omega)]
    rw [pv_lc_sel (l := List.range w.length) (fun i => T.int (i : Nat)) (fun k => T.str [w.getD k 0]) (fun k => decide ((k + 0) % m = rest)) (by simp [envK, hr]) (fun k hk => by
      have hk : k < w.length := by simpa using hk
      have cw : L2.atI w (k : Int) = some (w.getD k 0) := by rw [atI_ofNat]; simp [hk]
      have hmp : (0 : Int) < (m : Int) := by omega
      have md : binV .mod (.int (k : Nat)) (.int (m : Nat)) = some (.int ((k % m : Nat) : Int)) := by
        simp only [binV, if_pos hmp]
        congr 2
      refine ⟨_, by rw [pbind_nm, if_pos (by simp [envK])], ?_, fun _ => ?_⟩
      · unfold envK
        generalize machT M = mm at *
        generalize machT (chM M n m rest) = d1 at *
        generalize hv : k % m = v at *
        have e0 : ((v : Int) == (rest : Int)) = decide (v = rest) := by
          by_cases h : v = rest
          · simp [h]
          · have h' : ¬ (v : Int) = (rest : Int) := by omega
            simp [h, h']
        simp [-pv_bin, pv_bin, md, e0]
      · unfold envK
        generalize machT M = mm at *
        generalize machT (chM M n m rest) = d1 at *
        simp [-atI_ofNat, -List.getD_eq_getElem?_getD, cw]) (by simp; omega), List.map_map]
    rfl
  have hj := meth_join (l := pick m rest 0 w) (by omega)
  have ne := dat_cmp_ne (t := fr (worthM M (pick m rest 0 w))) (d := 1) (dat_fr (d := 0)) (by decide)
  unfold envK at *
  generalize machT M = mm at *
  generalize machT (chM M n m rest) = d1 at *
  generalize fr (worthM M (pick m rest 0 w)) = f1 at *
  generalize pick m rest 0 w = v at *
  simp [b_w1, -pv_lc, hlc, hj, w1, w2, ne]
theorem w2_step {k : Nat} (K : Mc 12 1 n M) (hn : n ≤ 3) (hk : k ≤ 4) {w : List Nat} (hw : ∀ a ∈ w, a ∈ M.letters) (hl : w.length ≤ 4) : pSs GG (CC 59) b_w2 (envK sc dr M ws m s7 (some (machT (sevM M n k))) s9 s10 (some (.str w)) (some (.int (k : Nat)))) = some (.nx (envK sc dr M ws m s7 (some (machT (sevM M n k))) s9 s10 (some (.str w)) (some (.int (k : Nat))))) := by
  have w1 : CC 59 n__law_worth [machT (sevM M n k), .str w] = some (fr (worthM (sevM M n k) w)) := lworthM LM (by decide) (by decide) (sev_okM K hn hk) (c := 8) (by omega) hw (by omega) 52
  have ef : (w.map fun a => List.replicate k a).flatten = w.flatMap fun a => List.replicate k a := rfl
  have fl : (w.flatMap fun a => List.replicate k a).length ≤ 4 * 4 := by
    have : (w.flatMap fun a => List.replicate k a).length = w.length * k := by
      clear hw hl w1 ef
      induction w with
      | nil => simp
      | cons a w ih => rw [List.flatMap_cons, List.length_append, ih, List.length_replicate, List.length_cons, Nat.succ_mul, Nat.add_comm]
    rw [this]
    exact Nat.mul_le_mul hl hk
  have w2 : CC 59 n__law_worth [machT M, .str (w.flatMap fun a => List.replicate k a)] = some (fr (worthM M (w.flatMap fun a => List.replicate k a))) := lworthM LM (by decide) (by decide) (M_okM K) (c := 2) (by omega) (fun a ha => by
    obtain ⟨b, hb, ha⟩ := List.mem_flatMap.mp ha
    rw [(List.mem_replicate.mp ha).2]
    exact hw b hb) (by omega) 52
  have eq : worthM (sevM M n k) w = worthM M (w.flatMap fun a => List.replicate k a) := sev_from K w M.start hw K.ls
  rw [eq] at w1
  have hlc : (pden GG (CC 59) (.lc (.bin .mul (.var 14) (.var 12)) (.nm 14) (.var 11) [] [14])).v (envK sc dr M ws m s7 (some (machT (sevM M n k))) s9 s10 (some (.str w)) (some (.int (k : Nat)))) = some (.lst ((w.map fun a => List.replicate k a).map T.str)) := by
    rw [pv_lc_all (l := w) (fun c => T.str [c]) (fun c => T.str (List.replicate k c)) (by simp [envK]) (fun c _ => by
      have := str_mul (c := c) (k := k) (by omega)
      unfold envK
      generalize machT M = mm at *
      generalize machT (sevM M n k) = d1 at *
      simp [-pv_bin, pv_bin, this]) (by omega), List.map_map]
    rfl
  have hj := meth_joinL (ss := w.map fun a => List.replicate k a) (by rw [ef]; omega)
  rw [ef] at hj
  have ne := dat_cmp_ne (t := fr (worthM M (w.flatMap fun a => List.replicate k a))) (d := 1) (dat_fr (d := 0)) (by decide)
  unfold envK at *
  generalize machT M = mm at *
  generalize machT (sevM M n k) = d1 at *
  generalize fr (worthM M (w.flatMap fun a => List.replicate k a)) = f1 at *
  generalize (w.flatMap fun a => List.replicate k a) = v at *
  generalize ((w.map fun a => List.replicate k a).map T.str) = v2 at *
  simp [b_w2, -pv_lc, hlc, hj, w1, w2, ne]
end
end K84
namespace K84
open Ev
open PySem (sizeLine)
section
variable {n m : Nat} {M : Mach} {sc : T} {dr : Option T} {ws : List (List Nat)} {s7 s8 s9 s10 s11 s12 : Option T}
def b_rest : List Ev.S := [.set 8 (.call n__law_chosen [.var 3, .var 7, .var 6]), .for_ (.nm 9) (.rng [.int 2]) b_t1, .for_ (.nm 11) (.var 5) b_w1]
def b_num : List Ev.S := [.set 8 (.call n__law_several [.var 3, .var 12]), .for_ (.nm 9) (.rng [.int 2]) b_t2, .for_ (.nm 11) (.sl (.var 5) [.int 0] [.int 9]) b_w2]
theorem r2 : rngV [.int 2] = some ((List.range 2).map fun i => T.int (i : Nat)) := rng_n (n := 2) (by decide)
theorem j1 : ∀ p, (pden GG (CC 59) (.rng [.int 2])).i p = some ((List.range 2).map fun i => T.int (i : Nat)) := fun p => by simp only [pi_rng, pdenL_cons, pdenL_nil, pL_cons, pL_nil, pv_int, Option.bind_some, Option.map_some, r2]
theorem rest_step {rest : Nat} (K : Mc 12 1 n M) (hn : n ≤ 3) (h1 : 1 ≤ M.letters.length) (hm : 1 ≤ m) (hm4 : m ≤ 4) (hws : ∀ w ∈ ws, w.length ≤ 4 ∧ ∀ a ∈ w, a ∈ M.letters) : ∃ t8 t9 t10 t11, pSs GG (CC 59) b_rest (envK sc dr M ws m (some (.int (rest : Nat))) s8 s9 s10 s11 s12) = some (.nx (envK sc dr M ws m (some (.int (rest : Nat))) t8 t9 t10 t11 s12)) := by
  have e8 : CC 59 n__law_chosen [machT M, .int (rest : Nat), .int (m : Nat)] = some (machT (chM M n m rest)) := run_lchosen hm (by omega) (by omega) K 57
  have b8 : pS GG (CC 59) (.set 8 (.call n__law_chosen [.var 3, .var 7, .var 6])) (envK sc dr M ws m (some (.int (rest : Nat))) s8 s9 s10 s11 s12) = some (.nx (envK sc dr M ws m (some (.int (rest : Nat))) (some (machT (chM M n m rest))) s9 s10 s11 s12)) := by
    unfold envK
    generalize machT (chM M n m rest) = d1 at *
    generalize machT M = mm at *
    simp [e8]
  obtain ⟨p1, x1, hP1⟩ := forP_keep (b := fun x p => pbind (.nm 9) x p) (f := pSs GG (CC 59) b_t1) (h := fun i : Nat => T.int (i : Nat)) (l := List.range 2)
    (fun p => ∃ s9 s10, p = envK sc dr M ws m (some (.int (rest : Nat))) (some (machT (chM M n m rest))) s9 s10 s11 s12) (p := envK sc dr M ws m (some (.int (rest : Nat))) (some (machT (chM M n m rest))) s9 s10 s11 s12) ⟨_, _, rfl⟩ (fun i _ p hp => by
      obtain ⟨s9, s10, rfl⟩ := hp
      obtain ⟨t10, e⟩ := t1_step (sc := sc) (dr := dr) (ws := ws) (s9 := some (.int (i : Nat))) (s10 := s10) (s11 := s11) (s12 := s12) (rest := rest) K hn h1 hm hm4
      exact ⟨_, _, by simp [envK], .inl e, _, _, rfl⟩)
  obtain ⟨t9, t10, rfl⟩ := hP1
  obtain ⟨p2, x2, hP2⟩ := forP_keep (b := fun x p => pbind (.nm 11) x p) (f := pSs GG (CC 59) b_w1) (h := T.str) (l := ws)
    (fun p => ∃ s11, p = envK sc dr M ws m (some (.int (rest : Nat))) (some (machT (chM M n m rest))) t9 t10 s11 s12) (p := envK sc dr M ws m (some (.int (rest : Nat))) (some (machT (chM M n m rest))) t9 t10 s11 s12) ⟨_, rfl⟩ (fun w mw p hp => by
      obtain ⟨s11, rfl⟩ := hp
      have hw := hws w mw
      have e := w1_step (sc := sc) (dr := dr) (ws := ws) (s9 := t9) (s10 := t10) (s12 := s12) (rest := rest) K hn hm hm4 hw.2 hw.1
      exact ⟨_, _, by simp [envK], .inl e, _, rfl⟩)
  obtain ⟨t11, rfl⟩ := hP2
  have jw : (pden GG (CC 59) (.var 5)).i (envK sc dr M ws m (some (.int (rest : Nat))) (some (machT (chM M n m rest))) t9 t10 s11 s12) = some (ws.map T.str) := by simp [envK, wordsT]
  refine ⟨some (machT (chM M n m rest)), t9, t10, t11, ?_⟩
  unfold b_rest
  rw [pSs_cons, b8]
  simp only [Option.bind_some, pseq_nx]
  rw [pSs_cons, pS_for, j1]
  simp only [Option.bind_some]
  rw [x1]
  simp only [Option.bind_some, pseq_nx]
  rw [pSs_cons, pS_for, jw]
  simp only [Option.bind_some]
  rw [x2]
  simp only [Option.bind_some, pseq_nx]
  rw [pSs_nil]
theorem num_step {k : Nat} (K : Mc 12 1 n M) (hn : n ≤ 3) (h1 : 1 ≤ M.letters.length) (hk : k ≤ 4) (hws : ∀ w ∈ ws, w.length ≤ 4 ∧ ∀ a ∈ w, a ∈ M.letters) : ∃ t8 t9 t10 t11, pSs GG (CC 59) b_num (envK sc dr M ws m s7 s8 s9 s10 s11 (some (.int (k : Nat)))) = some (.nx (envK sc dr M ws m s7 t8 t9 t10 t11 (some (.int (k : Nat))))) := by
  have e8 : CC 59 n__law_several [machT M, .int (k : Nat)] = some (machT (sevM M n k)) := run_lsev hk K 53
  have b8 : pS GG (CC 59) (.set 8 (.call n__law_several [.var 3, .var 12])) (envK sc dr M ws m s7 s8 s9 s10 s11 (some (.int (k : Nat)))) = some (.nx (envK sc dr M ws m s7 (some (machT (sevM M n k))) s9 s10 s11 (some (.int (k : Nat))))) := by
    unfold envK
    generalize machT (sevM M n k) = d1 at *
    generalize machT M = mm at *
    simp [e8]
  obtain ⟨p1, x1, hP1⟩ := forP_keep (b := fun x p => pbind (.nm 9) x p) (f := pSs GG (CC 59) b_t2) (h := fun i : Nat => T.int (i : Nat)) (l := List.range 2)
    (fun p => ∃ s9 s10, p = envK sc dr M ws m s7 (some (machT (sevM M n k))) s9 s10 s11 (some (.int (k : Nat)))) (p := envK sc dr M ws m s7 (some (machT (sevM M n k))) s9 s10 s11 (some (.int (k : Nat)))) ⟨_, _, rfl⟩ (fun i _ p hp => by
      obtain ⟨s9, s10, rfl⟩ := hp
      obtain ⟨t10, e⟩ := t2_step (sc := sc) (dr := dr) (ws := ws) (m := m) (s7 := s7) (s9 := some (.int (i : Nat))) (s10 := s10) (s11 := s11) (k := k) K h1 hk
      exact ⟨_, _, by simp [envK], .inl e, _, _, rfl⟩)
  obtain ⟨t9, t10, rfl⟩ := hP1
  obtain ⟨p2, x2, hP2⟩ := forP_keep (b := fun x p => pbind (.nm 11) x p) (f := pSs GG (CC 59) b_w2) (h := T.str) (l := ws.take 9)
    (fun p => ∃ s11, p = envK sc dr M ws m s7 (some (machT (sevM M n k))) t9 t10 s11 (some (.int (k : Nat)))) (p := envK sc dr M ws m s7 (some (machT (sevM M n k))) t9 t10 s11 (some (.int (k : Nat)))) ⟨_, rfl⟩ (fun w mw p hp => by
      obtain ⟨s11, rfl⟩ := hp
      have hw := hws w (List.mem_of_mem_take mw)
      have e := w2_step (sc := sc) (dr := dr) (ws := ws) (m := m) (s7 := s7) (s9 := t9) (s10 := t10) (k := k) K hn hk hw.2 hw.1
      exact ⟨_, _, by simp [envK], .inl e, _, rfl⟩)
  obtain ⟨t11, rfl⟩ := hP2
  have c9 := cut_take (xs := ws.map T.str) (k := 9)
  rw [← List.map_take] at c9
  have c9 : cutT (ws.map T.str) (some 0) (some 9) = (ws.take 9).map T.str := c9
  have jw : (pden GG (CC 59) (.sl (.var 5) [.int 0] [.int 9])).i (envK sc dr M ws m s7 (some (machT (sevM M n k))) t9 t10 s11 (some (.int (k : Nat)))) = some ((ws.take 9).map T.str) := by
    unfold envK wordsT
    generalize ws.map T.str = W at *
    generalize (ws.take 9).map T.str = V at *
    simp [c9]
  refine ⟨some (machT (sevM M n k)), t9, t10, t11, ?_⟩
  unfold b_num
  rw [pSs_cons, b8]
  simp only [Option.bind_some, pseq_nx]
  rw [pSs_cons, pS_for, j1]
  simp only [Option.bind_some]
  rw [x1]
  simp only [Option.bind_some, pseq_nx]
  rw [pSs_cons, pS_for, jw]
  simp only [Option.bind_some]
  rw [x2]
  simp only [Option.bind_some, pseq_nx]
  rw [pSs_nil]
end
theorem r15 : rngV [.int 1, .int 5] = some ((List.range 4).map fun i => T.int ((i + 1 : Nat) : Int)) := rfl
theorem holds (ns : List Int) (hl : ns.length ≤ 63) : topP GG (CC 59) f_law [.lst (ns.map T.int)] = some (.bl true) := by
  obtain ⟨ds, hdl, hd, e3⟩ := pun_numbers (G := GG) (F := FF) (f := n__law_numbers) rfl (L := 5040) (by decide) (by decide) (ns.getD 0 0) (c := 10) (by decide) 58
  have ec := pun_cell (G := GG) (F := FF) (f := n__law_cell) rfl ns 0 58
  generalize ns.getD 0 0 = cell at e3 ec
  have e3' : CC 59 n__law_numbers [.int cell, .int 10, .int 5040] = some (.lst (ds.map T.int)) := e3
  have ec' : CC 59 n__law_cell [.lst (ns.map T.int), .int 0] = some (.int cell) := ec
  have g0 : L2.atI (ds.map T.int) 0 = some (.int (ds.getD 0 0)) := ints_atI (k := 0) (by omega)
  have g1 : L2.atI (ds.map T.int) 1 = some (.int (ds.getD 1 0)) := ints_atI (k := 1) (by omega)
  generalize ds.getD 0 0 = d0 at g0
  generalize ds.getD 1 0 = d1 at g1
  obtain ⟨ls, kk, hls, nd, l1, l2, hkk, k4, kB⟩ : ∃ (ls : List Nat) (kk : Nat), L2.atI [T.str [97], .str [97, 98]] (d0 % 2) = some (.str ls) ∧ ls.Nodup ∧ 1 ≤ ls.length ∧ ls.length ≤ 2 ∧ L2.atI [T.int 4, .int 3] ((ls.length : Int) - 1) = some (.int (kk : Nat)) ∧ kk ≤ 4 ∧ (kk + 2) * ls.length ^ (kk + 1) ≤ 100000 := by
    have := mod_rng d0 (show (0 : Int) < 2 by decide)
    have : d0 % 2 = 0 ∨ d0 % 2 = 1 := by omega
    rcases this with h | h <;> rw [h]
    · exact ⟨[97], 4, rfl, by decide, by decide, by decide, rfl, by decide, by decide⟩
    · exact ⟨[97, 98], 3, rfl, by decide, by decide, by decide, rfl, by decide, by decide⟩
  obtain ⟨m, hmq, m2, m4⟩ : ∃ m : Nat, (2 : Int) + d1 % 3 = (m : Nat) ∧ 2 ≤ m ∧ m ≤ 4 := by
    have := mod_rng d1 (show (0 : Int) < 3 by decide)
    exact ⟨2 + (d1 % 3).toNat, by omega, by omega, by omega⟩
  obtain ⟨M, n, K, rfl, hn, em⟩ := lmachine (G := GG) LD ns 1 nd (by omega) (most := 3) (by decide) (by decide) 54
  have em' : CC 59 n__law_machine [.lst (ns.map T.int), .int 1, .str M.letters, .int 3] = some (machT M) := em
  have cp : CC 59 n__law_copy [machT M] = some (machT M) := pun_copy (G := GG) (F := FF) rfl K 58
  have eqm := dat_cmp_eq (K.dat (k := 0)) (by decide)
  have hwd : CC 59 n__law_words [.str M.letters, .int (kk : Nat)] = some (wordsT (wordsUp M.letters kk)) := lwords rfl l1 (by omega) (by omega) kB 58
  have hws : ∀ w ∈ wordsUp M.letters kk, w.length ≤ 4 ∧ ∀ a ∈ w, a ∈ M.letters := fun w mw => by
    have := wordsUp_mem.mp mw
    exact ⟨by omega, this.2⟩
  have blkA : pSs GG (CC 59) [.set 1 (.call n__law_numbers [.call n__law_cell [.var 0, .int 0], .int 10, .int 5040]), .set 2 (.ix (.lst [.str [97], .str [97, 98]]) (.bin .mod (.ix (.var 1) (.int 0)) (.int 2))), .set 3 (.call n__law_machine [.mov 0, .int 1, .var 2, .int 3]), .set 4 (.call n__law_copy [.var 3]), .set 5 (.call n__law_words [.var 2, .ix (.lst [.int 4, .int 3]) (.bin .sub (.blt .len [.var 2]) (.int 1))]), .set 6 (.bin .add (.int 2) (.bin .mod (.ix (.mov 1) (.int 1)) (.int 3)))] (startP f_law.ns [.lst (ns.map T.int)]) = some (.nx (envK (.lst (ns.map T.int)) (some (.lst (ds.map T.int))) M (wordsUp M.letters kk) m none none none none none none)) := by
    have sp : startP f_law.ns [.lst (ns.map T.int)] = [some (.lst (ns.map T.int)), none, none, none, none, none, none, none, none, none, none, none, none, none, none, none] := rfl
    have z2 : 2 ≤ sizeLine := le_size (by decide)
    rw [sp]
    unfold envK
    generalize machT M = mm at *
    generalize wordsT (wordsUp M.letters kk) = wt at *
    simp [ec', e3', g0, g1, hls, em', cp, z2, hkk, hwd, hmq, -atI_0, -atI_1]
  generalize hW : wordsUp M.letters kk = ws at *
  have hrm := rng_n (n := m) (by omega)
  obtain ⟨p1, x1, hP1⟩ := forP_keep (b := fun x p => pbind (.nm 7) x p) (f := pSs GG (CC 59) b_rest) (h := fun i : Nat => T.int (i : Nat)) (l := List.range m)
    (fun p => ∃ s7 s8 s9 s10 s11, p = envK (.lst (ns.map T.int)) (some (.lst (ds.map T.int))) M ws m s7 s8 s9 s10 s11 none) (p := envK (.lst (ns.map T.int)) (some (.lst (ds.map T.int))) M ws m none none none none none none) ⟨_, _, _, _, _, rfl⟩ (fun i _ p hp => by
      obtain ⟨s7, s8, s9, s10, s11, rfl⟩ := hp
      obtain ⟨t8, t9, t10, t11, e⟩ := rest_step (sc := .lst (ns.map T.int)) (dr := some (.lst (ds.map T.int))) (s8 := s8) (s9 := s9) (s10 := s10) (s11 := s11) (s12 := none) (rest := i) K hn l1 (by omega) m4 hws
      exact ⟨_, _, by simp [envK], .inl e, _, _, _, _, _, rfl⟩)
  obtain ⟨s7, s8, s9, s10, s11, rfl⟩ := hP1
  obtain ⟨p2, x2, hP2⟩ := forP_keep (b := fun x p => pbind (.nm 12) x p) (f := pSs GG (CC 59) b_num) (h := fun i : Nat => T.int ((i + 1 : Nat) : Int)) (l := List.range 4)
    (fun p => ∃ s8 s9 s10 s11 s12, p = envK (.lst (ns.map T.int)) (some (.lst (ds.map T.int))) M ws m s7 s8 s9 s10 s11 s12) (p := envK (.lst (ns.map T.int)) (some (.lst (ds.map T.int))) M ws m s7 s8 s9 s10 s11 none) ⟨_, _, _, _, _, rfl⟩ (fun i hi p hp => by
      have hi : i < 4 := by simpa using hi
      obtain ⟨s8, s9, s10, s11, s12, rfl⟩ := hp
      obtain ⟨t8, t9, t10, t11, e⟩ := num_step (sc := .lst (ns.map T.int)) (dr := some (.lst (ds.map T.int))) (m := m) (s7 := s7) (s8 := s8) (s9 := s9) (s10 := s10) (s11 := s11) (k := i + 1) K hn l1 (by omega) hws
      exact ⟨_, _, by simp [envK], .inl e, _, _, _, _, _, rfl⟩)
  obtain ⟨t8, t9, t10, t11, t12, rfl⟩ := hP2
  have bq : f_law.body = [.set 1 (.call n__law_numbers [.call n__law_cell [.var 0, .int 0], .int 10, .int 5040]), .set 2 (.ix (.lst [.str [97], .str [97, 98]]) (.bin .mod (.ix (.var 1) (.int 0)) (.int 2))), .set 3 (.call n__law_machine [.mov 0, .int 1, .var 2, .int 3]), .set 4 (.call n__law_copy [.var 3]), .set 5 (.call n__law_words [.var 2, .ix (.lst [.int 4, .int 3]) (.bin .sub (.blt .len [.var 2]) (.int 1))]), .set 6 (.bin .add (.int 2) (.bin .mod (.ix (.mov 1) (.int 1)) (.int 3)))] ++ [.for_ (.nm 7) (.rng [.var 6]) b_rest, .for_ (.nm 12) (.rng [.int 1, .int 5]) b_num, .ret (.cmp .eq (.mov 3) (.mov 4))] := rfl
  unfold topP
  rw [if_pos (by rfl), bq, pSs_app, blkA]
  simp only [Option.bind_some, pseq_nx]
  have j0 : (pden GG (CC 59) (.rng [.var 6])).i (envK (.lst (ns.map T.int)) (some (.lst (ds.map T.int))) M ws m none none none none none none) = some ((List.range m).map fun i => T.int (i : Nat)) := by simp [envK, hrm]
  rw [pSs_cons, pS_for, j0]
  simp only [Option.bind_some]
  rw [x1]
  simp only [Option.bind_some, pseq_nx]
  have j2 : ∀ p, (pden GG (CC 59) (.rng [.int 1, .int 5])).i p = some ((List.range 4).map fun i => T.int ((i + 1 : Nat) : Int)) := fun p => by simp only [pi_rng, pdenL_cons, pdenL_nil, pL_cons, pL_nil, pv_int, Option.bind_some, Option.map_some, r15]
  rw [pSs_cons, pS_for, j2]
  simp only [Option.bind_some]
  rw [x2]
  simp only [Option.bind_some, pseq_nx]
  unfold envK
  generalize machT M = mm at *
  simp [eqm]
end K84
namespace K84
open PySem PySem.Spec PyProof.Rows L2 Ev
def topS (i : Nat) : Stmt := PySem.Challenge.pw_wordsweighed_k84_chosen_letters_and_lett.main.body.getD i (.Pass ⟨0, 0, 0, 0⟩)
def U : BF → Bool
  | .abs => true
  | .gcd => true
  | .int => true
  | .len => true
  | .list => true
  | _ => false
abbrev s_fraction : Stmt := topS 3
def N_fraction : List Str := ["top", "bottom", "common"]
theorem S_fraction : FnScope N_fraction ["top", "bottom"] (defScope s_fraction) := ⟨rfl, rfl, rfl, by decide +kernel, rfl, by decide +kernel, by decide +kernel⟩
theorem m_fraction : mSs U N_fraction (defScope s_fraction) f_fraction.body (defBody s_fraction) = true := by decide +kernel
abbrev s_whole : Stmt := topS 4
def N_whole : List Str := ["number"]
theorem S_whole : FnScope N_whole ["number"] (defScope s_whole) := ⟨rfl, rfl, rfl, by decide +kernel, rfl, by decide +kernel, by decide +kernel⟩
theorem m_whole : mSs U N_whole (defScope s_whole) f_whole.body (defBody s_whole) = true := by decide +kernel
abbrev s_plus : Stmt := topS 5
def N_plus : List Str := ["one", "other"]
theorem S_plus : FnScope N_plus ["one", "other"] (defScope s_plus) := ⟨rfl, rfl, rfl, by decide +kernel, rfl, by decide +kernel, by decide +kernel⟩
theorem m_plus : mSs U N_plus (defScope s_plus) f_plus.body (defBody s_plus) = true := by decide +kernel
abbrev s_times : Stmt := topS 6
def N_times : List Str := ["one", "other"]
theorem S_times : FnScope N_times ["one", "other"] (defScope s_times) := ⟨rfl, rfl, rfl, by decide +kernel, rfl, by decide +kernel, by decide +kernel⟩
theorem m_times : mSs U N_times (defScope s_times) f_times.body (defBody s_times) = true := by decide +kernel
abbrev s_sum_of : Stmt := topS 7
def N_sum_of : List Str := ["some", "found", "one"]
theorem S_sum_of : FnScope N_sum_of ["some"] (defScope s_sum_of) := ⟨rfl, rfl, rfl, by decide +kernel, rfl, by decide +kernel, by decide +kernel⟩
theorem m_sum_of : mSs U N_sum_of (defScope s_sum_of) f_sum_of.body (defBody s_sum_of) = true := by decide +kernel
abbrev s_sum_by : Stmt := topS 9
def N_sum_by : List Str := ["row", "other", "one", "two"]
theorem S_sum_by : FnScope N_sum_by ["row", "other"] (defScope s_sum_by) := ⟨rfl, rfl, rfl, by decide +kernel, rfl, by decide +kernel, by decide +kernel⟩
theorem m_sum_by : mSs U N_sum_by (defScope s_sum_by) f_sum_by.body (defBody s_sum_by) = true := by decide +kernel
abbrev s_column : Stmt := topS 10
def N_column : List Str := ["table", "number", "row"]
theorem S_column : FnScope N_column ["table", "number"] (defScope s_column) := ⟨rfl, rfl, rfl, by decide +kernel, rfl, by decide +kernel, by decide +kernel⟩
theorem m_column : mSs U N_column (defScope s_column) f_column.body (defBody s_column) = true := by decide +kernel
abbrev s_row_by : Stmt := topS 11
def N_row_by : List Str := ["row", "table", "j"]
theorem S_row_by : FnScope N_row_by ["row", "table"] (defScope s_row_by) := ⟨rfl, rfl, rfl, by decide +kernel, rfl, by decide +kernel, by decide +kernel⟩
theorem m_row_by : mSs U N_row_by (defScope s_row_by) f_row_by.body (defBody s_row_by) = true := by decide +kernel
abbrev s_unit_row : Stmt := topS 12
def N_unit_row : List Str := ["size", "number", "k"]
theorem S_unit_row : FnScope N_unit_row ["size", "number"] (defScope s_unit_row) := ⟨rfl, rfl, rfl, by decide +kernel, rfl, by decide +kernel, by decide +kernel⟩
theorem m_unit_row : mSs U N_unit_row (defScope s_unit_row) f_unit_row.body (defBody s_unit_row) = true := by decide +kernel
abbrev s_unit_table : Stmt := topS 13
def N_unit_table : List Str := ["size", "k"]
theorem S_unit_table : FnScope N_unit_table ["size"] (defScope s_unit_table) := ⟨rfl, rfl, rfl, by decide +kernel, rfl, by decide +kernel, by decide +kernel⟩
theorem m_unit_table : mSs U N_unit_table (defScope s_unit_table) f_unit_table.body (defBody s_unit_table) = true := by decide +kernel
abbrev s_in_set : Stmt := topS 15
def N_in_set : List Str := ["row", "number", "sets", "size"]
theorem S_in_set : FnScope N_in_set ["row", "number", "sets"] (defScope s_in_set) := ⟨rfl, rfl, rfl, by decide +kernel, rfl, by decide +kernel, by decide +kernel⟩
theorem m_in_set : mSs U N_in_set (defScope s_in_set) f_in_set.body (defBody s_in_set) = true := by decide +kernel
abbrev s_chosen_table : Stmt := topS 16
def N_chosen_table : List Str := ["table", "rest", "modulus", "found", "number", "here", "row"]
theorem S_chosen_table : FnScope N_chosen_table ["table", "rest", "modulus"] (defScope s_chosen_table) := ⟨rfl, rfl, rfl, by decide +kernel, rfl, by decide +kernel, by decide +kernel⟩
theorem m_chosen_table : mSs U N_chosen_table (defScope s_chosen_table) f_chosen_table.body (defBody s_chosen_table) = true := by decide +kernel
abbrev s_chosen : Stmt := topS 17
def N_chosen : List Str := ["machine", "rest", "modulus", "letters", "start", "steps", "end", "made", "table"]
theorem S_chosen : FnScope N_chosen ["machine", "rest", "modulus"] (defScope s_chosen) := ⟨rfl, rfl, rfl, by decide +kernel, rfl, by decide +kernel, by decide +kernel⟩
theorem m_chosen : mSs U N_chosen (defScope s_chosen) f_chosen.body (defBody s_chosen) = true := by decide +kernel
abbrev s_several_times : Stmt := topS 18
def N_several_times : List Str := ["machine", "number", "letters", "start", "steps", "end", "made", "table", "rows", "_", "row"]
theorem S_several_times : FnScope N_several_times ["machine", "number"] (defScope s_several_times) := ⟨rfl, rfl, rfl, by decide +kernel, rfl, by decide +kernel, by decide +kernel⟩
theorem m_several_times : mSs U N_several_times (defScope s_several_times) f_several_times.body (defBody s_several_times) = true := by decide +kernel
abbrev s__law_cell : Stmt := topS 20
def N__law_cell : List Str := ["script", "k"]
theorem S__law_cell : FnScope N__law_cell ["script", "k"] (defScope s__law_cell) := ⟨rfl, rfl, rfl, by decide +kernel, rfl, by decide +kernel, by decide +kernel⟩
theorem m__law_cell : mSs U N__law_cell (defScope s__law_cell) f__law_cell.body (defBody s__law_cell) = true := by decide +kernel
abbrev s__law_numbers : Stmt := topS 21
def N__law_numbers : List Str := ["cell", "count", "limit", "found", "k", "mixed"]
theorem S__law_numbers : FnScope N__law_numbers ["cell", "count", "limit"] (defScope s__law_numbers) := ⟨rfl, rfl, rfl, by decide +kernel, rfl, by decide +kernel, by decide +kernel⟩
theorem m__law_numbers : mSs U N__law_numbers (defScope s__law_numbers) f__law_numbers.body (defBody s__law_numbers) = true := by decide +kernel
abbrev s__law_common : Stmt := topS 22
def N__law_common : List Str := ["one", "other", "turn"]
theorem S__law_common : FnScope N__law_common ["one", "other"] (defScope s__law_common) := ⟨rfl, rfl, rfl, by decide +kernel, rfl, by decide +kernel, by decide +kernel⟩
theorem m__law_common : mSs U N__law_common (defScope s__law_common) f__law_common.body (defBody s__law_common) = true := by decide +kernel
abbrev s__law_frac : Stmt := topS 23
def N__law_frac : List Str := ["top", "bottom", "common"]
theorem S__law_frac : FnScope N__law_frac ["top", "bottom"] (defScope s__law_frac) := ⟨rfl, rfl, rfl, by decide +kernel, rfl, by decide +kernel, by decide +kernel⟩
theorem m__law_frac : mSs U N__law_frac (defScope s__law_frac) f__law_frac.body (defBody s__law_frac) = true := by decide +kernel
abbrev s__law_plus : Stmt := topS 24
def N__law_plus : List Str := ["one", "other"]
theorem S__law_plus : FnScope N__law_plus ["one", "other"] (defScope s__law_plus) := ⟨rfl, rfl, rfl, by decide +kernel, rfl, by decide +kernel, by decide +kernel⟩
theorem m__law_plus : mSs U N__law_plus (defScope s__law_plus) f__law_plus.body (defBody s__law_plus) = true := by decide +kernel
abbrev s__law_times : Stmt := topS 25
def N__law_times : List Str := ["one", "other"]
theorem S__law_times : FnScope N__law_times ["one", "other"] (defScope s__law_times) := ⟨rfl, rfl, rfl, by decide +kernel, rfl, by decide +kernel, by decide +kernel⟩
theorem m__law_times : mSs U N__law_times (defScope s__law_times) f__law_times.body (defBody s__law_times) = true := by decide +kernel
abbrev s__law_item : Stmt := topS 26
def N__law_item : List Str := ["draw", "kind"]
theorem S__law_item : FnScope N__law_item ["draw"] (defScope s__law_item) := ⟨rfl, rfl, rfl, by decide +kernel, rfl, by decide +kernel, by decide +kernel⟩
theorem m__law_item : mSs U N__law_item (defScope s__law_item) f__law_item.body (defBody s__law_item) = true := by decide +kernel
abbrev s__law_machine : Stmt := topS 27
def N__law_machine : List Str := ["script", "at", "letters", "most", "draws", "size", "items", "start", "end", "steps", "k", "base", "draw", "item", "i"]
theorem S__law_machine : FnScope N__law_machine ["script", "at", "letters", "most"] (defScope s__law_machine) := ⟨rfl, rfl, rfl, by decide +kernel, rfl, by decide +kernel, by decide +kernel⟩
theorem m__law_machine : mSs U N__law_machine (defScope s__law_machine) f__law_machine.body (defBody s__law_machine) = true := by decide +kernel
abbrev s__law_sum : Stmt := topS 28
def N__law_sum : List Str := ["row", "other", "total", "k"]
theorem S__law_sum : FnScope N__law_sum ["row", "other"] (defScope s__law_sum) := ⟨rfl, rfl, rfl, by decide +kernel, rfl, by decide +kernel, by decide +kernel⟩
theorem m__law_sum : mSs U N__law_sum (defScope s__law_sum) f__law_sum.body (defBody s__law_sum) = true := by decide +kernel
abbrev s__law_by : Stmt := topS 29
def N__law_by : List Str := ["row", "table", "j", "line"]
theorem S__law_by : FnScope N__law_by ["row", "table"] (defScope s__law_by) := ⟨rfl, rfl, rfl, by decide +kernel, rfl, by decide +kernel, by decide +kernel⟩
theorem m__law_by : mSs U N__law_by (defScope s__law_by) f__law_by.body (defBody s__law_by) = true := by decide +kernel
abbrev s__law_reach : Stmt := topS 30
def N__law_reach : List Str := ["machine", "word", "row", "letter"]
theorem S__law_reach : FnScope N__law_reach ["machine", "word"] (defScope s__law_reach) := ⟨rfl, rfl, rfl, by decide +kernel, rfl, by decide +kernel, by decide +kernel⟩
theorem m__law_reach : mSs U N__law_reach (defScope s__law_reach) f__law_reach.body (defBody s__law_reach) = true := by decide +kernel
abbrev s__law_worth : Stmt := topS 31
def N__law_worth : List Str := ["machine", "word"]
theorem S__law_worth : FnScope N__law_worth ["machine", "word"] (defScope s__law_worth) := ⟨rfl, rfl, rfl, by decide +kernel, rfl, by decide +kernel, by decide +kernel⟩
theorem m__law_worth : mSs U N__law_worth (defScope s__law_worth) f__law_worth.body (defBody s__law_worth) = true := by decide +kernel
abbrev s__law_words : Stmt := topS 32
def N__law_words : List Str := ["letters", "length", "found", "layer", "k", "more", "word", "letter"]
theorem S__law_words : FnScope N__law_words ["letters", "length"] (defScope s__law_words) := ⟨rfl, rfl, rfl, by decide +kernel, rfl, by decide +kernel, by decide +kernel⟩
theorem m__law_words : mSs U N__law_words (defScope s__law_words) f__law_words.body (defBody s__law_words) = true := by decide +kernel
abbrev s__law_same : Stmt := topS 33
def N__law_same : List Str := ["told", "due", "k"]
theorem S__law_same : FnScope N__law_same ["told", "due"] (defScope s__law_same) := ⟨rfl, rfl, rfl, by decide +kernel, rfl, by decide +kernel, by decide +kernel⟩
theorem m__law_same : mSs U N__law_same (defScope s__law_same) f__law_same.body (defBody s__law_same) = true := by decide +kernel
abbrev s__law_ones : Stmt := topS 34
def N__law_ones : List Str := ["size", "i", "k"]
theorem S__law_ones : FnScope N__law_ones ["size"] (defScope s__law_ones) := ⟨rfl, rfl, rfl, by decide +kernel, rfl, by decide +kernel, by decide +kernel⟩
theorem m__law_ones : mSs U N__law_ones (defScope s__law_ones) f__law_ones.body (defBody s__law_ones) = true := by decide +kernel
abbrev s__law_zeros : Stmt := topS 35
def N__law_zeros : List Str := ["size", "k"]
theorem S__law_zeros : FnScope N__law_zeros ["size"] (defScope s__law_zeros) := ⟨rfl, rfl, rfl, by decide +kernel, rfl, by decide +kernel, by decide +kernel⟩
theorem m__law_zeros : mSs U N__law_zeros (defScope s__law_zeros) f__law_zeros.body (defBody s__law_zeros) = true := by decide +kernel
abbrev s__law_copy : Stmt := topS 36
def N__law_copy : List Str := ["machine", "table", "row"]
theorem S__law_copy : FnScope N__law_copy ["machine"] (defScope s__law_copy) := ⟨rfl, rfl, rfl, by decide +kernel, rfl, by decide +kernel, by decide +kernel⟩
theorem m__law_copy : mSs U N__law_copy (defScope s__law_copy) f__law_copy.body (defBody s__law_copy) = true := by decide +kernel
abbrev s__law_answer : Stmt := topS 37
def N__law_answer : List Str := ["told", "due"]
theorem S__law_answer : FnScope N__law_answer ["told", "due"] (defScope s__law_answer) := ⟨rfl, rfl, rfl, by decide +kernel, rfl, by decide +kernel, by decide +kernel⟩
theorem m__law_answer : mSs U N__law_answer (defScope s__law_answer) (i__law_answer ++ [.ret (.bl true)]) (defBody s__law_answer) = true := by decide +kernel
abbrev s__law_chosen : Stmt := topS 38
def N__law_chosen : List Str := ["machine", "rest", "modulus", "letters", "start", "steps", "end", "size", "ones", "tables", "table", "rows", "number", "following", "i", "here"]
theorem S__law_chosen : FnScope N__law_chosen ["machine", "rest", "modulus"] (defScope s__law_chosen) := ⟨rfl, rfl, rfl, by decide +kernel, rfl, by decide +kernel, by decide +kernel⟩
theorem m__law_chosen : mSs U N__law_chosen (defScope s__law_chosen) f__law_chosen.body (defBody s__law_chosen) = true := by decide +kernel
abbrev s__law_several : Stmt := topS 39
def N__law_several : List Str := ["machine", "number", "letters", "start", "steps", "end", "tables", "table", "rows", "turn", "row"]
theorem S__law_several : FnScope N__law_several ["machine", "number"] (defScope s__law_several) := ⟨rfl, rfl, rfl, by decide +kernel, rfl, by decide +kernel, by decide +kernel⟩
theorem m__law_several : mSs U N__law_several (defScope s__law_several) f__law_several.body (defBody s__law_several) = true := by decide +kernel
abbrev s_law : Stmt := topS 40
def N_law : List Str := ["script", "draws", "letters", "machine", "kept", "words", "modulus", "rest", "due", "turn", "told", "word", "number", "k", "letter", "!top"]
theorem S_law : FnScope N_law ["script"] (defScope s_law) := ⟨rfl, rfl, rfl, by decide +kernel, rfl, by decide +kernel, by decide +kernel⟩
theorem m_law : mSs U N_law (defScope s_law) f_law.body (defBody s_law) = true := by decide +kernel
set_option maxHeartbeats 0 in
theorem fin {l : PySem.W.OpenLaw} {w : World} {K : PySem.W.Frag} {h : Heap} {mg : Str → Option Value} {fa : Addr} (X : K.In h) (Gn : h.Ns mainGlobals mg) (hfa : mg "law" = some (.ref fa))
    {a0 : Addr} {oc0 kV0 dc0 pm0 cd0 ct0 : Value} {od0 an0 : Option Addr} {sl0 : Array (Option Value)}
    (p0 : PySem.W.nsIn K mainGlobals "fraction" = some (some (.ref a0))) (l0 : K.lookup a0 = some ⟨oc0, od0, .func (PySem.W.fnOf "fraction" "fraction" (defArgs s_fraction) (defBody s_fraction) (defScope s_fraction) .none kV0 dc0 pm0 an0 cd0 ct0), sl0⟩) (c0 : PySem.W.codeIn K cd0 "fraction" = true) (k0 : PySem.W.keepIn K (.ref a0) = true)
    {a1 : Addr} {oc1 kV1 dc1 pm1 cd1 ct1 : Value} {od1 an1 : Option Addr} {sl1 : Array (Option Value)}
    (p1 : PySem.W.nsIn K mainGlobals "whole" = some (some (.ref a1))) (l1 : K.lookup a1 = some ⟨oc1, od1, .func (PySem.W.fnOf "whole" "whole" (defArgs s_whole) (defBody s_whole) (defScope s_whole) .none kV1 dc1 pm1 an1 cd1 ct1), sl1⟩) (c1 : PySem.W.codeIn K cd1 "whole" = true) (k1 : PySem.W.keepIn K (.ref a1) = true)
    {a2 : Addr} {oc2 kV2 dc2 pm2 cd2 ct2 : Value} {od2 an2 : Option Addr} {sl2 : Array (Option Value)}
    (p2 : PySem.W.nsIn K mainGlobals "plus" = some (some (.ref a2))) (l2 : K.lookup a2 = some ⟨oc2, od2, .func (PySem.W.fnOf "plus" "plus" (defArgs s_plus) (defBody s_plus) (defScope s_plus) .none kV2 dc2 pm2 an2 cd2 ct2), sl2⟩) (c2 : PySem.W.codeIn K cd2 "plus" = true) (k2 : PySem.W.keepIn K (.ref a2) = true)
    {a3 : Addr} {oc3 kV3 dc3 pm3 cd3 ct3 : Value} {od3 an3 : Option Addr} {sl3 : Array (Option Value)}
    (p3 : PySem.W.nsIn K mainGlobals "times" = some (some (.ref a3))) (l3 : K.lookup a3 = some ⟨oc3, od3, .func (PySem.W.fnOf "times" "times" (defArgs s_times) (defBody s_times) (defScope s_times) .none kV3 dc3 pm3 an3 cd3 ct3), sl3⟩) (c3 : PySem.W.codeIn K cd3 "times" = true) (k3 : PySem.W.keepIn K (.ref a3) = true)
    {a4 : Addr} {oc4 kV4 dc4 pm4 cd4 ct4 : Value} {od4 an4 : Option Addr} {sl4 : Array (Option Value)}
    (p4 : PySem.W.nsIn K mainGlobals "sum_of" = some (some (.ref a4))) (l4 : K.lookup a4 = some ⟨oc4, od4, .func (PySem.W.fnOf "sum_of" "sum_of" (defArgs s_sum_of) (defBody s_sum_of) (defScope s_sum_of) .none kV4 dc4 pm4 an4 cd4 ct4), sl4⟩) (c4 : PySem.W.codeIn K cd4 "sum_of" = true) (k4 : PySem.W.keepIn K (.ref a4) = true)
    {a5 : Addr} {oc5 kV5 dc5 pm5 cd5 ct5 : Value} {od5 an5 : Option Addr} {sl5 : Array (Option Value)}
    (p5 : PySem.W.nsIn K mainGlobals "sum_by" = some (some (.ref a5))) (l5 : K.lookup a5 = some ⟨oc5, od5, .func (PySem.W.fnOf "sum_by" "sum_by" (defArgs s_sum_by) (defBody s_sum_by) (defScope s_sum_by) .none kV5 dc5 pm5 an5 cd5 ct5), sl5⟩) (c5 : PySem.W.codeIn K cd5 "sum_by" = true) (k5 : PySem.W.keepIn K (.ref a5) = true)
    {a6 : Addr} {oc6 kV6 dc6 pm6 cd6 ct6 : Value} {od6 an6 : Option Addr} {sl6 : Array (Option Value)}
    (p6 : PySem.W.nsIn K mainGlobals "column" = some (some (.ref a6))) (l6 : K.lookup a6 = some ⟨oc6, od6, .func (PySem.W.fnOf "column" "column" (defArgs s_column) (defBody s_column) (defScope s_column) .none kV6 dc6 pm6 an6 cd6 ct6), sl6⟩) (c6 : PySem.W.codeIn K cd6 "column" = true) (k6 : PySem.W.keepIn K (.ref a6) = true)
    {a7 : Addr} {oc7 kV7 dc7 pm7 cd7 ct7 : Value} {od7 an7 : Option Addr} {sl7 : Array (Option Value)}
    (p7 : PySem.W.nsIn K mainGlobals "row_by" = some (some (.ref a7))) (l7 : K.lookup a7 = some ⟨oc7, od7, .func (PySem.W.fnOf "row_by" "row_by" (defArgs s_row_by) (defBody s_row_by) (defScope s_row_by) .none kV7 dc7 pm7 an7 cd7 ct7), sl7⟩) (c7 : PySem.W.codeIn K cd7 "row_by" = true) (k7 : PySem.W.keepIn K (.ref a7) = true)
    {a8 : Addr} {oc8 kV8 dc8 pm8 cd8 ct8 : Value} {od8 an8 : Option Addr} {sl8 : Array (Option Value)}
    (p8 : PySem.W.nsIn K mainGlobals "unit_row" = some (some (.ref a8))) (l8 : K.lookup a8 = some ⟨oc8, od8, .func (PySem.W.fnOf "unit_row" "unit_row" (defArgs s_unit_row) (defBody s_unit_row) (defScope s_unit_row) .none kV8 dc8 pm8 an8 cd8 ct8), sl8⟩) (c8 : PySem.W.codeIn K cd8 "unit_row" = true) (k8 : PySem.W.keepIn K (.ref a8) = true)
    {a9 : Addr} {oc9 kV9 dc9 pm9 cd9 ct9 : Value} {od9 an9 : Option Addr} {sl9 : Array (Option Value)}
    (p9 : PySem.W.nsIn K mainGlobals "unit_table" = some (some (.ref a9))) (l9 : K.lookup a9 = some ⟨oc9, od9, .func (PySem.W.fnOf "unit_table" "unit_table" (defArgs s_unit_table) (defBody s_unit_table) (defScope s_unit_table) .none kV9 dc9 pm9 an9 cd9 ct9), sl9⟩) (c9 : PySem.W.codeIn K cd9 "unit_table" = true) (k9 : PySem.W.keepIn K (.ref a9) = true)
    {a10 : Addr} {oc10 kV10 dc10 pm10 cd10 ct10 : Value} {od10 an10 : Option Addr} {sl10 : Array (Option Value)}
    (p10 : PySem.W.nsIn K mainGlobals "in_set" = some (some (.ref a10))) (l10 : K.lookup a10 = some ⟨oc10, od10, .func (PySem.W.fnOf "in_set" "in_set" (defArgs s_in_set) (defBody s_in_set) (defScope s_in_set) .none kV10 dc10 pm10 an10 cd10 ct10), sl10⟩) (c10 : PySem.W.codeIn K cd10 "in_set" = true) (k10 : PySem.W.keepIn K (.ref a10) = true)
    {a11 : Addr} {oc11 kV11 dc11 pm11 cd11 ct11 : Value} {od11 an11 : Option Addr} {sl11 : Array (Option Value)}
    (p11 : PySem.W.nsIn K mainGlobals "chosen_table" = some (some (.ref a11))) (l11 : K.lookup a11 = some ⟨oc11, od11, .func (PySem.W.fnOf "chosen_table" "chosen_table" (defArgs s_chosen_table) (defBody s_chosen_table) (defScope s_chosen_table) .none kV11 dc11 pm11 an11 cd11 ct11), sl11⟩) (c11 : PySem.W.codeIn K cd11 "chosen_table" = true) (k11 : PySem.W.keepIn K (.ref a11) = true)
    {a12 : Addr} {oc12 kV12 dc12 pm12 cd12 ct12 : Value} {od12 an12 : Option Addr} {sl12 : Array (Option Value)}
    (p12 : PySem.W.nsIn K mainGlobals "chosen" = some (some (.ref a12))) (l12 : K.lookup a12 = some ⟨oc12, od12, .func (PySem.W.fnOf "chosen" "chosen" (defArgs s_chosen) (defBody s_chosen) (defScope s_chosen) .none kV12 dc12 pm12 an12 cd12 ct12), sl12⟩) (c12 : PySem.W.codeIn K cd12 "chosen" = true) (k12 : PySem.W.keepIn K (.ref a12) = true)
    {a13 : Addr} {oc13 kV13 dc13 pm13 cd13 ct13 : Value} {od13 an13 : Option Addr} {sl13 : Array (Option Value)}
    (p13 : PySem.W.nsIn K mainGlobals "several_times" = some (some (.ref a13))) (l13 : K.lookup a13 = some ⟨oc13, od13, .func (PySem.W.fnOf "several_times" "several_times" (defArgs s_several_times) (defBody s_several_times) (defScope s_several_times) .none kV13 dc13 pm13 an13 cd13 ct13), sl13⟩) (c13 : PySem.W.codeIn K cd13 "several_times" = true) (k13 : PySem.W.keepIn K (.ref a13) = true)
    {a14 : Addr} {oc14 kV14 dc14 pm14 cd14 ct14 : Value} {od14 an14 : Option Addr} {sl14 : Array (Option Value)}
    (p14 : PySem.W.nsIn K mainGlobals "_law_cell" = some (some (.ref a14))) (l14 : K.lookup a14 = some ⟨oc14, od14, .func (PySem.W.fnOf "_law_cell" "_law_cell" (defArgs s__law_cell) (defBody s__law_cell) (defScope s__law_cell) .none kV14 dc14 pm14 an14 cd14 ct14), sl14⟩) (c14 : PySem.W.codeIn K cd14 "_law_cell" = true) (k14 : PySem.W.keepIn K (.ref a14) = true)
    {a15 : Addr} {oc15 kV15 dc15 pm15 cd15 ct15 : Value} {od15 an15 : Option Addr} {sl15 : Array (Option Value)}
    (p15 : PySem.W.nsIn K mainGlobals "_law_numbers" = some (some (.ref a15))) (l15 : K.lookup a15 = some ⟨oc15, od15, .func (PySem.W.fnOf "_law_numbers" "_law_numbers" (defArgs s__law_numbers) (defBody s__law_numbers) (defScope s__law_numbers) .none kV15 dc15 pm15 an15 cd15 ct15), sl15⟩) (c15 : PySem.W.codeIn K cd15 "_law_numbers" = true) (k15 : PySem.W.keepIn K (.ref a15) = true)
    {a16 : Addr} {oc16 kV16 dc16 pm16 cd16 ct16 : Value} {od16 an16 : Option Addr} {sl16 : Array (Option Value)}
    (p16 : PySem.W.nsIn K mainGlobals "_law_common" = some (some (.ref a16))) (l16 : K.lookup a16 = some ⟨oc16, od16, .func (PySem.W.fnOf "_law_common" "_law_common" (defArgs s__law_common) (defBody s__law_common) (defScope s__law_common) .none kV16 dc16 pm16 an16 cd16 ct16), sl16⟩) (c16 : PySem.W.codeIn K cd16 "_law_common" = true) (k16 : PySem.W.keepIn K (.ref a16) = true)
    {a17 : Addr} {oc17 kV17 dc17 pm17 cd17 ct17 : Value} {od17 an17 : Option Addr} {sl17 : Array (Option Value)}
    (p17 : PySem.W.nsIn K mainGlobals "_law_frac" = some (some (.ref a17))) (l17 : K.lookup a17 = some ⟨oc17, od17, .func (PySem.W.fnOf "_law_frac" "_law_frac" (defArgs s__law_frac) (defBody s__law_frac) (defScope s__law_frac) .none kV17 dc17 pm17 an17 cd17 ct17), sl17⟩) (c17 : PySem.W.codeIn K cd17 "_law_frac" = true) (k17 : PySem.W.keepIn K (.ref a17) = true)
    {a18 : Addr} {oc18 kV18 dc18 pm18 cd18 ct18 : Value} {od18 an18 : Option Addr} {sl18 : Array (Option Value)}
    (p18 : PySem.W.nsIn K mainGlobals "_law_plus" = some (some (.ref a18))) (l18 : K.lookup a18 = some ⟨oc18, od18, .func (PySem.W.fnOf "_law_plus" "_law_plus" (defArgs s__law_plus) (defBody s__law_plus) (defScope s__law_plus) .none kV18 dc18 pm18 an18 cd18 ct18), sl18⟩) (c18 : PySem.W.codeIn K cd18 "_law_plus" = true) (k18 : PySem.W.keepIn K (.ref a18) = true)
    {a19 : Addr} {oc19 kV19 dc19 pm19 cd19 ct19 : Value} {od19 an19 : Option Addr} {sl19 : Array (Option Value)}
    (p19 : PySem.W.nsIn K mainGlobals "_law_times" = some (some (.ref a19))) (l19 : K.lookup a19 = some ⟨oc19, od19, .func (PySem.W.fnOf "_law_times" "_law_times" (defArgs s__law_times) (defBody s__law_times) (defScope s__law_times) .none kV19 dc19 pm19 an19 cd19 ct19), sl19⟩) (c19 : PySem.W.codeIn K cd19 "_law_times" = true) (k19 : PySem.W.keepIn K (.ref a19) = true)
    {a20 : Addr} {oc20 kV20 dc20 pm20 cd20 ct20 : Value} {od20 an20 : Option Addr} {sl20 : Array (Option Value)}
    (p20 : PySem.W.nsIn K mainGlobals "_law_item" = some (some (.ref a20))) (l20 : K.lookup a20 = some ⟨oc20, od20, .func (PySem.W.fnOf "_law_item" "_law_item" (defArgs s__law_item) (defBody s__law_item) (defScope s__law_item) .none kV20 dc20 pm20 an20 cd20 ct20), sl20⟩) (c20 : PySem.W.codeIn K cd20 "_law_item" = true) (k20 : PySem.W.keepIn K (.ref a20) = true)
    {a21 : Addr} {oc21 kV21 dc21 pm21 cd21 ct21 : Value} {od21 an21 : Option Addr} {sl21 : Array (Option Value)}
    (p21 : PySem.W.nsIn K mainGlobals "_law_machine" = some (some (.ref a21))) (l21 : K.lookup a21 = some ⟨oc21, od21, .func (PySem.W.fnOf "_law_machine" "_law_machine" (defArgs s__law_machine) (defBody s__law_machine) (defScope s__law_machine) .none kV21 dc21 pm21 an21 cd21 ct21), sl21⟩) (c21 : PySem.W.codeIn K cd21 "_law_machine" = true) (k21 : PySem.W.keepIn K (.ref a21) = true)
    {a22 : Addr} {oc22 kV22 dc22 pm22 cd22 ct22 : Value} {od22 an22 : Option Addr} {sl22 : Array (Option Value)}
    (p22 : PySem.W.nsIn K mainGlobals "_law_sum" = some (some (.ref a22))) (l22 : K.lookup a22 = some ⟨oc22, od22, .func (PySem.W.fnOf "_law_sum" "_law_sum" (defArgs s__law_sum) (defBody s__law_sum) (defScope s__law_sum) .none kV22 dc22 pm22 an22 cd22 ct22), sl22⟩) (c22 : PySem.W.codeIn K cd22 "_law_sum" = true) (k22 : PySem.W.keepIn K (.ref a22) = true)
    {a23 : Addr} {oc23 kV23 dc23 pm23 cd23 ct23 : Value} {od23 an23 : Option Addr} {sl23 : Array (Option Value)}
    (p23 : PySem.W.nsIn K mainGlobals "_law_by" = some (some (.ref a23))) (l23 : K.lookup a23 = some ⟨oc23, od23, .func (PySem.W.fnOf "_law_by" "_law_by" (defArgs s__law_by) (defBody s__law_by) (defScope s__law_by) .none kV23 dc23 pm23 an23 cd23 ct23), sl23⟩) (c23 : PySem.W.codeIn K cd23 "_law_by" = true) (k23 : PySem.W.keepIn K (.ref a23) = true)
    {a24 : Addr} {oc24 kV24 dc24 pm24 cd24 ct24 : Value} {od24 an24 : Option Addr} {sl24 : Array (Option Value)}
    (p24 : PySem.W.nsIn K mainGlobals "_law_reach" = some (some (.ref a24))) (l24 : K.lookup a24 = some ⟨oc24, od24, .func (PySem.W.fnOf "_law_reach" "_law_reach" (defArgs s__law_reach) (defBody s__law_reach) (defScope s__law_reach) .none kV24 dc24 pm24 an24 cd24 ct24), sl24⟩) (c24 : PySem.W.codeIn K cd24 "_law_reach" = true) (k24 : PySem.W.keepIn K (.ref a24) = true)
    {a25 : Addr} {oc25 kV25 dc25 pm25 cd25 ct25 : Value} {od25 an25 : Option Addr} {sl25 : Array (Option Value)}
    (p25 : PySem.W.nsIn K mainGlobals "_law_worth" = some (some (.ref a25))) (l25 : K.lookup a25 = some ⟨oc25, od25, .func (PySem.W.fnOf "_law_worth" "_law_worth" (defArgs s__law_worth) (defBody s__law_worth) (defScope s__law_worth) .none kV25 dc25 pm25 an25 cd25 ct25), sl25⟩) (c25 : PySem.W.codeIn K cd25 "_law_worth" = true) (k25 : PySem.W.keepIn K (.ref a25) = true)
    {a26 : Addr} {oc26 kV26 dc26 pm26 cd26 ct26 : Value} {od26 an26 : Option Addr} {sl26 : Array (Option Value)}
    (p26 : PySem.W.nsIn K mainGlobals "_law_words" = some (some (.ref a26))) (l26 : K.lookup a26 = some ⟨oc26, od26, .func (PySem.W.fnOf "_law_words" "_law_words" (defArgs s__law_words) (defBody s__law_words) (defScope s__law_words) .none kV26 dc26 pm26 an26 cd26 ct26), sl26⟩) (c26 : PySem.W.codeIn K cd26 "_law_words" = true) (k26 : PySem.W.keepIn K (.ref a26) = true)
    {a27 : Addr} {oc27 kV27 dc27 pm27 cd27 ct27 : Value} {od27 an27 : Option Addr} {sl27 : Array (Option Value)}
    (p27 : PySem.W.nsIn K mainGlobals "_law_same" = some (some (.ref a27))) (l27 : K.lookup a27 = some ⟨oc27, od27, .func (PySem.W.fnOf "_law_same" "_law_same" (defArgs s__law_same) (defBody s__law_same) (defScope s__law_same) .none kV27 dc27 pm27 an27 cd27 ct27), sl27⟩) (c27 : PySem.W.codeIn K cd27 "_law_same" = true) (k27 : PySem.W.keepIn K (.ref a27) = true)
    {a28 : Addr} {oc28 kV28 dc28 pm28 cd28 ct28 : Value} {od28 an28 : Option Addr} {sl28 : Array (Option Value)}
    (p28 : PySem.W.nsIn K mainGlobals "_law_ones" = some (some (.ref a28))) (l28 : K.lookup a28 = some ⟨oc28, od28, .func (PySem.W.fnOf "_law_ones" "_law_ones" (defArgs s__law_ones) (defBody s__law_ones) (defScope s__law_ones) .none kV28 dc28 pm28 an28 cd28 ct28), sl28⟩) (c28 : PySem.W.codeIn K cd28 "_law_ones" = true) (k28 : PySem.W.keepIn K (.ref a28) = true)
    {a29 : Addr} {oc29 kV29 dc29 pm29 cd29 ct29 : Value} {od29 an29 : Option Addr} {sl29 : Array (Option Value)}
    (p29 : PySem.W.nsIn K mainGlobals "_law_zeros" = some (some (.ref a29))) (l29 : K.lookup a29 = some ⟨oc29, od29, .func (PySem.W.fnOf "_law_zeros" "_law_zeros" (defArgs s__law_zeros) (defBody s__law_zeros) (defScope s__law_zeros) .none kV29 dc29 pm29 an29 cd29 ct29), sl29⟩) (c29 : PySem.W.codeIn K cd29 "_law_zeros" = true) (k29 : PySem.W.keepIn K (.ref a29) = true)
    {a30 : Addr} {oc30 kV30 dc30 pm30 cd30 ct30 : Value} {od30 an30 : Option Addr} {sl30 : Array (Option Value)}
    (p30 : PySem.W.nsIn K mainGlobals "_law_copy" = some (some (.ref a30))) (l30 : K.lookup a30 = some ⟨oc30, od30, .func (PySem.W.fnOf "_law_copy" "_law_copy" (defArgs s__law_copy) (defBody s__law_copy) (defScope s__law_copy) .none kV30 dc30 pm30 an30 cd30 ct30), sl30⟩) (c30 : PySem.W.codeIn K cd30 "_law_copy" = true) (k30 : PySem.W.keepIn K (.ref a30) = true)
    {a31 : Addr} {oc31 kV31 dc31 pm31 cd31 ct31 : Value} {od31 an31 : Option Addr} {sl31 : Array (Option Value)}
    (p31 : PySem.W.nsIn K mainGlobals "_law_answer" = some (some (.ref a31))) (l31 : K.lookup a31 = some ⟨oc31, od31, .func (PySem.W.fnOf "_law_answer" "_law_answer" (defArgs s__law_answer) (defBody s__law_answer) (defScope s__law_answer) .none kV31 dc31 pm31 an31 cd31 ct31), sl31⟩) (c31 : PySem.W.codeIn K cd31 "_law_answer" = true) (k31 : PySem.W.keepIn K (.ref a31) = true)
    {a32 : Addr} {oc32 kV32 dc32 pm32 cd32 ct32 : Value} {od32 an32 : Option Addr} {sl32 : Array (Option Value)}
    (p32 : PySem.W.nsIn K mainGlobals "_law_chosen" = some (some (.ref a32))) (l32 : K.lookup a32 = some ⟨oc32, od32, .func (PySem.W.fnOf "_law_chosen" "_law_chosen" (defArgs s__law_chosen) (defBody s__law_chosen) (defScope s__law_chosen) .none kV32 dc32 pm32 an32 cd32 ct32), sl32⟩) (c32 : PySem.W.codeIn K cd32 "_law_chosen" = true) (k32 : PySem.W.keepIn K (.ref a32) = true)
    {a33 : Addr} {oc33 kV33 dc33 pm33 cd33 ct33 : Value} {od33 an33 : Option Addr} {sl33 : Array (Option Value)}
    (p33 : PySem.W.nsIn K mainGlobals "_law_several" = some (some (.ref a33))) (l33 : K.lookup a33 = some ⟨oc33, od33, .func (PySem.W.fnOf "_law_several" "_law_several" (defArgs s__law_several) (defBody s__law_several) (defScope s__law_several) .none kV33 dc33 pm33 an33 cd33 ct33), sl33⟩) (c33 : PySem.W.codeIn K cd33 "_law_several" = true) (k33 : PySem.W.keepIn K (.ref a33) = true)
    {a34 : Addr} {oc34 kV34 dc34 pm34 cd34 ct34 : Value} {od34 an34 : Option Addr} {sl34 : Array (Option Value)}
    (p34 : PySem.W.nsIn K mainGlobals "law" = some (some (.ref a34))) (l34 : K.lookup a34 = some ⟨oc34, od34, .func (PySem.W.fnOf "law" "law" (defArgs s_law) (defBody s_law) (defScope s_law) .none kV34 dc34 pm34 an34 cd34 ct34), sl34⟩) (c34 : PySem.W.codeIn K cd34 "law" = true) (k34 : PySem.W.keepIn K (.ref a34) = true)
    {ga0 : Addr} {goc0 : Option Addr} {gsl0 : Array (Option Value)} {gn0 : Nat} {gt0_0 : Tok} {gt0_1 : Tok}
    (gq0 : PySem.W.nsIn K mainGlobals "ZERO" = some (some (.ref ga0))) (hq0 : K.lookup ga0 = some ⟨.type "tuple", goc0, .seq #[.int (0) gt0_0, .int (1) gt0_1] gn0, gsl0⟩)
    (z_abs : PySem.W.nsIn K mainGlobals "abs" = some none)
    (z_int : PySem.W.nsIn K mainGlobals "int" = some none)
    (z_len : PySem.W.nsIn K mainGlobals "len" = some none)
    (z_list : PySem.W.nsIn K mainGlobals "list" = some none)
    (z_isinstance : PySem.W.nsIn K mainGlobals "isinstance" = some none)
    (z_bool : PySem.W.nsIn K mainGlobals "bool" = some none)
    (z_str : PySem.W.nsIn K mainGlobals "str" = some none)
    (z_tuple : PySem.W.nsIn K mainGlobals "tuple" = some none)
    (z_range : PySem.W.nsIn K mainGlobals "range" = some none)
    (z_zip : PySem.W.nsIn K mainGlobals "zip" = some none)
    (z_enumerate : PySem.W.nsIn K mainGlobals "enumerate" = some none)
    (z_reversed : PySem.W.nsIn K mainGlobals "reversed" = some none)
    (z_gcd : PySem.W.nsIn K mainGlobals "gcd" = some (some (.builtin "math.gcd")))
    : ∃ fd : FuncData, (∀ (s : Shared) (v : Value), BindsTo s fd ⟨[v], []⟩ [("script", v)]) ∧ ∀ base : Heap, CallsAt callerA l.prog w K mg base fa fd ["script"] (spC K 1 (topR GG (runN GG FF 59) f_law)) := by
  have zn : ∀ {x : Str}, PySem.W.nsIn K mainGlobals x = some none → mg x = none := fun z => PySem.W.mg_none_of X Gn z
  have M : MOk K mg U (tabG con) :=
    { blt := fun f hu hg => by
        cases f with
        | abs => exact zn z_abs
        | gcd => exact absurd rfl hg
        | int => exact zn z_int
        | len => exact zn z_len
        | list => exact zn z_list
        | _ => cases hu
      gcd := fun hu => PySem.W.mg_of X Gn z_gcd
      isi := zn z_isinstance
      cls := fun c => by
        cases c with
        | int => exact zn z_int
        | bool => exact zn z_bool
        | str => exact zn z_str
        | list => exact zn z_list
        | tuple => exact zn z_tuple
      rng := zn z_range
      zip := zn z_zip
      enm := zn z_enumerate
      rvd := zn z_reversed
      glob := AllC.of ⟨c_tup (its := [.int (0) gt0_0, .int (1) gt0_1]) X Gn (by decide +kernel) gq0 hq0 (Nat.le_of_ble_eq_true rfl) ⟨lit_int, lit_int, trivial⟩, trivial⟩ }
  have d0 : DefAny K mg U n_fraction f_fraction := d_mk X Gn (by decide +kernel) p0 l0 c0 k0 (fun _ _ _ _ _ _ us hl => match us, hl with | [_, _], _ => rfl) S_fraction rfl rfl m_fraction
  have d1 : DefAny K mg U n_whole f_whole := d_mk X Gn (by decide +kernel) p1 l1 c1 k1 (fun _ _ _ _ _ _ us hl => match us, hl with | [_], _ => rfl) S_whole rfl rfl m_whole
  have d2 : DefAny K mg U n_plus f_plus := d_mk X Gn (by decide +kernel) p2 l2 c2 k2 (fun _ _ _ _ _ _ us hl => match us, hl with | [_, _], _ => rfl) S_plus rfl rfl m_plus
  have d3 : DefAny K mg U n_times f_times := d_mk X Gn (by decide +kernel) p3 l3 c3 k3 (fun _ _ _ _ _ _ us hl => match us, hl with | [_, _], _ => rfl) S_times rfl rfl m_times
  have d4 : DefAny K mg U n_sum_of f_sum_of := d_mk X Gn (by decide +kernel) p4 l4 c4 k4 (fun _ _ _ _ _ _ us hl => match us, hl with | [_], _ => rfl) S_sum_of rfl rfl m_sum_of
  have d5 : DefAny K mg U n_sum_by f_sum_by := d_mk X Gn (by decide +kernel) p5 l5 c5 k5 (fun _ _ _ _ _ _ us hl => match us, hl with | [_, _], _ => rfl) S_sum_by rfl rfl m_sum_by
  have d6 : DefAny K mg U n_column f_column := d_mk X Gn (by decide +kernel) p6 l6 c6 k6 (fun _ _ _ _ _ _ us hl => match us, hl with | [_, _], _ => rfl) S_column rfl rfl m_column
  have d7 : DefAny K mg U n_row_by f_row_by := d_mk X Gn (by decide +kernel) p7 l7 c7 k7 (fun _ _ _ _ _ _ us hl => match us, hl with | [_, _], _ => rfl) S_row_by rfl rfl m_row_by
  have d8 : DefAny K mg U n_unit_row f_unit_row := d_mk X Gn (by decide +kernel) p8 l8 c8 k8 (fun _ _ _ _ _ _ us hl => match us, hl with | [_, _], _ => rfl) S_unit_row rfl rfl m_unit_row
  have d9 : DefAny K mg U n_unit_table f_unit_table := d_mk X Gn (by decide +kernel) p9 l9 c9 k9 (fun _ _ _ _ _ _ us hl => match us, hl with | [_], _ => rfl) S_unit_table rfl rfl m_unit_table
  have d10 : DefAny K mg U n_in_set f_in_set := d_mk X Gn (by decide +kernel) p10 l10 c10 k10 (fun _ _ _ _ _ _ us hl => match us, hl with | [_, _, _], _ => rfl) S_in_set rfl rfl m_in_set
  have d11 : DefAny K mg U n_chosen_table f_chosen_table := d_mk X Gn (by decide +kernel) p11 l11 c11 k11 (fun _ _ _ _ _ _ us hl => match us, hl with | [_, _, _], _ => rfl) S_chosen_table rfl rfl m_chosen_table
  have d12 : DefAny K mg U n_chosen f_chosen := d_mk X Gn (by decide +kernel) p12 l12 c12 k12 (fun _ _ _ _ _ _ us hl => match us, hl with | [_, _, _], _ => rfl) S_chosen rfl rfl m_chosen
  have d13 : DefAny K mg U n_several_times f_several_times := d_mk X Gn (by decide +kernel) p13 l13 c13 k13 (fun _ _ _ _ _ _ us hl => match us, hl with | [_, _], _ => rfl) S_several_times rfl rfl m_several_times
  have d14 : DefAny K mg U n__law_cell f__law_cell := d_mk X Gn (by decide +kernel) p14 l14 c14 k14 (fun _ _ _ _ _ _ us hl => match us, hl with | [_, _], _ => rfl) S__law_cell rfl rfl m__law_cell
  have d15 : DefAny K mg U n__law_numbers f__law_numbers := d_mk X Gn (by decide +kernel) p15 l15 c15 k15 (fun _ _ _ _ _ _ us hl => match us, hl with | [_, _, _], _ => rfl) S__law_numbers rfl rfl m__law_numbers
  have d16 : DefAny K mg U n__law_common f__law_common := d_mk X Gn (by decide +kernel) p16 l16 c16 k16 (fun _ _ _ _ _ _ us hl => match us, hl with | [_, _], _ => rfl) S__law_common rfl rfl m__law_common
  have d17 : DefAny K mg U n__law_frac f__law_frac := d_mk X Gn (by decide +kernel) p17 l17 c17 k17 (fun _ _ _ _ _ _ us hl => match us, hl with | [_, _], _ => rfl) S__law_frac rfl rfl m__law_frac
  have d18 : DefAny K mg U n__law_plus f__law_plus := d_mk X Gn (by decide +kernel) p18 l18 c18 k18 (fun _ _ _ _ _ _ us hl => match us, hl with | [_, _], _ => rfl) S__law_plus rfl rfl m__law_plus
  have d19 : DefAny K mg U n__law_times f__law_times := d_mk X Gn (by decide +kernel) p19 l19 c19 k19 (fun _ _ _ _ _ _ us hl => match us, hl with | [_, _], _ => rfl) S__law_times rfl rfl m__law_times
  have d20 : DefAny K mg U n__law_item f__law_item := d_mk X Gn (by decide +kernel) p20 l20 c20 k20 (fun _ _ _ _ _ _ us hl => match us, hl with | [_], _ => rfl) S__law_item rfl rfl m__law_item
  have d21 : DefAny K mg U n__law_machine f__law_machine := d_mk X Gn (by decide +kernel) p21 l21 c21 k21 (fun _ _ _ _ _ _ us hl => match us, hl with | [_, _, _, _], _ => rfl) S__law_machine rfl rfl m__law_machine
  have d22 : DefAny K mg U n__law_sum f__law_sum := d_mk X Gn (by decide +kernel) p22 l22 c22 k22 (fun _ _ _ _ _ _ us hl => match us, hl with | [_, _], _ => rfl) S__law_sum rfl rfl m__law_sum
  have d23 : DefAny K mg U n__law_by f__law_by := d_mk X Gn (by decide +kernel) p23 l23 c23 k23 (fun _ _ _ _ _ _ us hl => match us, hl with | [_, _], _ => rfl) S__law_by rfl rfl m__law_by
  have d24 : DefAny K mg U n__law_reach f__law_reach := d_mk X Gn (by decide +kernel) p24 l24 c24 k24 (fun _ _ _ _ _ _ us hl => match us, hl with | [_, _], _ => rfl) S__law_reach rfl rfl m__law_reach
  have d25 : DefAny K mg U n__law_worth f__law_worth := d_mk X Gn (by decide +kernel) p25 l25 c25 k25 (fun _ _ _ _ _ _ us hl => match us, hl with | [_, _], _ => rfl) S__law_worth rfl rfl m__law_worth
  have d26 : DefAny K mg U n__law_words f__law_words := d_mk X Gn (by decide +kernel) p26 l26 c26 k26 (fun _ _ _ _ _ _ us hl => match us, hl with | [_, _], _ => rfl) S__law_words rfl rfl m__law_words
  have d27 : DefAny K mg U n__law_same f__law_same := d_mk X Gn (by decide +kernel) p27 l27 c27 k27 (fun _ _ _ _ _ _ us hl => match us, hl with | [_, _], _ => rfl) S__law_same rfl rfl m__law_same
  have d28 : DefAny K mg U n__law_ones f__law_ones := d_mk X Gn (by decide +kernel) p28 l28 c28 k28 (fun _ _ _ _ _ _ us hl => match us, hl with | [_], _ => rfl) S__law_ones rfl rfl m__law_ones
  have d29 : DefAny K mg U n__law_zeros f__law_zeros := d_mk X Gn (by decide +kernel) p29 l29 c29 k29 (fun _ _ _ _ _ _ us hl => match us, hl with | [_], _ => rfl) S__law_zeros rfl rfl m__law_zeros
  have d30 : DefAny K mg U n__law_copy f__law_copy := d_mk X Gn (by decide +kernel) p30 l30 c30 k30 (fun _ _ _ _ _ _ us hl => match us, hl with | [_], _ => rfl) S__law_copy rfl rfl m__law_copy
  have d31 : DefAny K mg U (0 :: n__law_answer) f__law_answer := d_mkO X Gn (by decide +kernel) p31 l31 c31 k31 (fun _ _ _ _ _ _ us hl => match us, hl with | [_, _], _ => rfl) S__law_answer rfl rfl (init := i__law_answer) rfl rfl m__law_answer
  have d32 : DefAny K mg U n__law_chosen f__law_chosen := d_mk X Gn (by decide +kernel) p32 l32 c32 k32 (fun _ _ _ _ _ _ us hl => match us, hl with | [_, _, _], _ => rfl) S__law_chosen rfl rfl m__law_chosen
  have d33 : DefAny K mg U n__law_several f__law_several := d_mk X Gn (by decide +kernel) p33 l33 c33 k33 (fun _ _ _ _ _ _ us hl => match us, hl with | [_, _], _ => rfl) S__law_several rfl rfl m__law_several
  exact law_top X Gn hfa M (tb := tab) ⟨d0, d1, d2, d3, d4, d5, d6, d7, d8, d9, d10, d11, d12, d13, d14, d15, d16, d17, d18, d19, d20, d21, d22, d23, d24, d25, d26, d27, d28, d29, d30, d31, d32, d33, trivial⟩ (n := 59) (d := f_law) ⟨rfl, by decide, by decide⟩ p34 l34 c34 k34 (fun s v => .of_eq rfl) S_law rfl rfl m_law
theorem chk : chkT GG sigs tab = true := by decide +kernel
theorem chkL : chkF GG (fun f => sigs.lookup f) false ([.lst .nl], .nl, .full) f_law = true := by decide +kernel
theorem owned (ns : List Int) (hl : ns.length ≤ 63) : topR GG (runN GG FF 59) f_law [.lst (ns.map T.int)] = some (.bl true, .full) := law_plain_top chk chkL (holds ns hl)
end K84
open PySem PySem.W PyProof.Rows
set_option maxHeartbeats 0 in
theorem PySem.Challenge.cw_wordsweighed_k84_chosen_letters_and_lett_holds : PySem.Challenge.rw_wordsweighed_k84_chosen_letters_and_lett.Holds := by
  w_on; o_law; k_head; (case hw => w_witness2)
  k_fill
  refine Ev.walk_at (l := PySem.Challenge.rw_wordsweighed_k84_chosen_letters_and_lett) (n := 63) (x := "script") (sp := fun w => Ev.spC _ 1 (Ev.topR K84.GG (Ev.runN K84.GG K84.FF 59) K84.f_law)) rfl (by decide) rfl (fun w h Y => PySem.W.kIn_of Y) ?F (fun w H a ns hl hS => Ev.sp_law (o := .full) ?evNoL hS (K84.owned ns hl))
  case evNoL => rfl
  case F =>
    intro w mg fa h KX G hmg
    refine' K84.fin KX G hmg ?p0 ?l0 ?c0 ?k0 ?p1 ?l1 ?c1 ?k1 ?p2 ?l2 ?c2 ?k2 ?p3 ?l3 ?c3 ?k3 ?p4 ?l4 ?c4 ?k4 ?p5 ?l5 ?c5 ?k5 ?p6 ?l6 ?c6 ?k6 ?p7 ?l7 ?c7 ?k7 ?p8 ?l8 ?c8 ?k8 ?p9 ?l9 ?c9 ?k9 ?p10 ?l10 ?c10 ?k10 ?p11 ?l11 ?c11 ?k11 ?p12 ?l12 ?c12 ?k12 ?p13 ?l13 ?c13 ?k13 ?p14 ?l14 ?c14 ?k14 ?p15 ?l15 ?c15 ?k15 ?p16 ?l16 ?c16 ?k16 ?p17 ?l17 ?c17 ?k17 ?p18 ?l18 ?c18 ?k18 ?p19 ?l19 ?c19 ?k19 ?p20 ?l20 ?c20 ?k20 ?p21 ?l21 ?c21 ?k21 ?p22 ?l22 ?c22 ?k22 ?p23 ?l23 ?c23 ?k23 ?p24 ?l24 ?c24 ?k24 ?p25 ?l25 ?c25 ?k25 ?p26 ?l26 ?c26 ?k26 ?p27 ?l27 ?c27 ?k27 ?p28 ?l28 ?c28 ?k28 ?p29 ?l29 ?c29 ?k29 ?p30 ?l30 ?c30 ?k30 ?p31 ?l31 ?c31 ?k31 ?p32 ?l32 ?c32 ?k32 ?p33 ?l33 ?c33 ?k33 ?p34 ?l34 ?c34 ?k34 ?gq0 ?hq0 ?z_abs ?z_int ?z_len ?z_list ?z_isinstance ?z_bool ?z_str ?z_tuple ?z_range ?z_zip ?z_enumerate ?z_reversed ?z_gcd
    (case p0 => k_is); (case l0 => k_is); (case c0 => k_is); (case k0 => k_is); (case p1 => k_is); (case l1 => k_is); (case c1 => k_is); (case k1 => k_is); (case p2 => k_is); (case l2 => k_is); (case c2 => k_is); (case k2 => k_is); (case p3 => k_is); (case l3 => k_is); (case c3 => k_is); (case k3 => k_is); (case p4 => k_is); (case l4 => k_is); (case c4 => k_is); (case k4 => k_is); (case p5 => k_is); (case l5 => k_is); (case c5 => k_is); (case k5 => k_is); (case p6 => k_is); (case l6 => k_is); (case c6 => k_is); (case k6 => k_is); (case p7 => k_is); (case l7 => k_is); (case c7 => k_is); (case k7 => k_is); (case p8 => k_is); (case l8 => k_is); (case c8 => k_is); (case k8 => k_is); (case p9 => k_is); (case l9 => k_is); (case c9 => k_is); (case k9 => k_is); (case p10 => k_is); (case l10 => k_is); (case c10 => k_is); (case k10 => k_is); (case p11 => k_is); (case l11 => k_is); (case c11 => k_is); (case k11 => k_is); (case p12 => k_is); (case l12 => k_is); (case c12 => k_is); (case k12 => k_is); (case p13 => k_is); (case l13 => k_is); (case c13 => k_is); (case k13 => k_is); (case p14 => k_is); (case l14 => k_is); (case c14 => k_is); (case k14 => k_is); (case p15 => k_is); (case l15 => k_is); (case c15 => k_is); (case k15 => k_is); (case p16 => k_is); (case l16 => k_is); (case c16 => k_is); (case k16 => k_is); (case p17 => k_is); (case l17 => k_is); (case c17 => k_is); (case k17 => k_is); (case p18 => k_is); (case l18 => k_is); (case c18 => k_is); (case k18 => k_is); (case p19 => k_is); (case l19 => k_is); (case c19 => k_is); (case k19 => k_is); (case p20 => k_is); (case l20 => k_is); (case c20 => k_is); (case k20 => k_is); (case p21 => k_is); (case l21 => k_is); (case c21 => k_is); (case k21 => k_is); (case p22 => k_is); (case l22 => k_is); (case c22 => k_is); (case k22 => k_is); (case p23 => k_is); (case l23 => k_is); (case c23 => k_is); (case k23 => k_is); (case p24 => k_is); (case l24 => k_is); (case c24 => k_is); (case k24 => k_is); (case p25 => k_is); (case l25 => k_is); (case c25 => k_is); (case k25 => k_is); (case p26 => k_is); (case l26 => k_is); (case c26 => k_is); (case k26 => k_is); (case p27 => k_is); (case l27 => k_is); (case c27 => k_is); (case k27 => k_is); (case p28 => k_is); (case l28 => k_is); (case c28 => k_is); (case k28 => k_is); (case p29 => k_is); (case l29 => k_is); (case c29 => k_is); (case k29 => k_is); (case p30 => k_is); (case l30 => k_is); (case c30 => k_is); (case k30 => k_is); (case p31 => k_is); (case l31 => k_is); (case c31 => k_is); (case k31 => k_is); (case p32 => k_is); (case l32 => k_is); (case c32 => k_is); (case k32 => k_is); (case p33 => k_is); (case l33 => k_is); (case c33 => k_is); (case k33 => k_is); (case p34 => k_is); (case l34 => k_is); (case c34 => k_is); (case k34 => k_is); (case gq0 => k_is); (case hq0 => k_is); (case z_abs => k_is); (case z_int => k_is); (case z_len => k_is); (case z_list => k_is); (case z_isinstance => k_is); (case z_bool => k_is); (case z_str => k_is); (case z_tuple => k_is); (case z_range => k_is); (case z_zip => k_is); (case z_enumerate => k_is); (case z_reversed => k_is); (case z_gcd => k_is)
