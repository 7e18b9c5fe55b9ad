import PyProof.Rows.All
import Wide.All
import OpenK.AllK
import Wide.FinOn
import HandS.ForMost
import HandS.Star
import HandS.TupAny
import HandS.TupMul
import HandS.TupLe
import HandS.Deep
import HandS.Style
import HandS.Zip
import HandS.Conv
import HandS.Wide
import KE.SortData
import KE.KIndexOf
import KE.GoesMore
import PyProof.Draws
import PyProof.P3In
import PyProof.Rows.InDataRows
import PyProof.ReprRoads
import PyProof.FitsInt
import PyProof.StrLawsRepr
import PyProof.CallFns
import PyProof.Rows.TupMore
import PyProof.ReprLen
import HandS.Small
import HandS.Ends
import HandS.Words
import KE.DataMinMax
import PySem.Challenge.RW_ordersround_k76_whole_lists_evacuated
set_option linter.all false
set_option Elab.async false
section
set_option linter.all false
set_option autoImplicit false
/-! Rf0: data, a small language, its evaluator. Plain Lean, no library. -/
namespace Rf

/-- data: trees -/
inductive D where
  | non
  | bl (b : Bool)
  | int (i : Int)
  | str (cs : List Nat)
  | rep (d : D)
  | lst (xs : List D)
  | tup (xs : List D)
  | dct (t : Bool) (kvs : List (D × D))
  | src
  deriving Inhabited

/-- the drawing source -/
structure Sr where
  cells : List Int
  left : Int
  mixed : Int
  turn : Int
  fz : Bool := false
  deriving Inhabited, DecidableEq

/-- the source's numbers: left, mixed, turn -/
def Sr.fld (s : Sr) : Nat → Int
  | 0 => s.left
  | 1 => s.mixed
  | _ => s.turn
def Sr.putF (s : Sr) (n : Int) : Nat → Sr
  | 0 => { s with left := n }
  | 1 => { s with mixed := n }
  | _ => { s with turn := n }
/-- cells are used up (the last one first) while nothing is left -/
def Sr.fillR : List Int → Int → List Int × Int
  | [], l => ([], l)
  | c :: r, l => if l < 2 then Sr.fillR r c else (c :: r, l)
def Sr.fill (s : Sr) : Sr := { s with cells := (Sr.fillR s.cells.reverse s.left).1.reverse, left := (Sr.fillR s.cells.reverse s.left).2 }
namespace D
/-- lists and dicts can be changed -/
def chg : D → Bool
  | .lst _ => true
  | .dct _ _ => true
  | _ => false

mutual
/-- the same data -/
def same : D → D → Bool
  | .non, .non => true
  | .bl a, .bl b => a == b
  | .int a, .int b => decide (a = b)
  | .str a, .str b => a == b
  | .rep a, .rep b => same a b
  | .lst a, .lst b => sameL a b
  | .tup a, .tup b => sameL a b
  | .dct s a, .dct t b => s == t && sameP a b
  | .src, .src => true
  | _, _ => false
def sameL : List D → List D → Bool
  | [], [] => true
  | x :: xs, y :: ys => same x y && sameL xs ys
  | _, _ => false
def sameP : List (D × D) → List (D × D) → Bool
  | [], [] => true
  | (a, b) :: xs, (c, d) :: ys => same a c && same b d && sameP xs ys
  | _, _ => false
end

mutual
/-- == of data without texts of repr, dicts -/
def eqv : D → D → Bool
  | .non, .non => true
  | .bl a, .bl b => a == b
  | .bl a, .int j => decide ((if a then 1 else 0) = j)
  | .int i, .bl b => decide (i = (if b then 1 else 0))
  | .int i, .int j => decide (i = j)
  | .str x, .str y => x == y
  | .lst xs, .lst ys => eqvL xs ys
  | .tup xs, .tup ys => eqvL xs ys
  | _, _ => false
def eqvL : List D → List D → Bool
  | [], [] => true
  | x :: xs, y :: ys => eqv x y && eqvL xs ys
  | _, _ => false
end

mutual
/-- data of at most so many levels, with plain texts, no dicts, no repr -/
def shp : D → Nat → Bool
  | .non, _ => true
  | .bl _, _ => true
  | .int _, _ => true
  | .str cs, _ => cs.all (fun c => decide (c < 128)) && decide (cs.length ≤ 1000)
  | .lst xs, k => match k with | 0 => false | k + 1 => shpL xs k
  | .tup xs, k => match k with | 0 => false | k + 1 => shpL xs k
  | _, _ => false
def shpL : List D → Nat → Bool
  | [], _ => true
  | x :: xs, k => shp x k && shpL xs k
end

mutual
/-- a bound for the length of the repr -/
def rsz : D → Nat
  | .non => 4
  | .bl _ => 5
  | .int i => if decide (i.natAbs < 2 ^ 64) then 70 else 2 ^ 30
  | .str cs => 10 * cs.length + 2
  | .lst xs => rszL xs + 3
  | .tup xs => rszL xs + 3
  | _ => 2 ^ 30
def rszL : List D → Nat
  | [] => 0
  | x :: xs => rsz x + 2 + rszL xs
end

def flat : D → Bool
  | .non => true
  | .bl _ => true
  | .int _ => true
  | .str _ => true
  | _ => false

/-- the items of a list or a tuple -/
def items : D → Option (List D)
  | .lst xs => some xs
  | .tup xs => some xs
  | _ => none
def intsOf : List D → Option (List Int)
  | [] => some []
  | .int i :: r => (intsOf r).map (i :: ·)
  | _ :: _ => none
def bools : List D → Option (List Bool)
  | [] => some []
  | .bl i :: r => (bools r).map (i :: ·)
  | _ :: _ => none
end D

def szLine : Nat := 16777216

inductive Bop where | add | sub | mul | fdiv | mod | pow | shl | shr | band
  deriving DecidableEq
inductive Cop where | eq | ne | lt | le | gt | ge | isin | notin | isnon | notnon
  deriving DecidableEq

def lexLt : List Int → List Int → Bool
  | [], [] => false
  | [], _ :: _ => true
  | _ :: _, [] => false
  | x :: xs, y :: ys => if x = y then lexLt xs ys else decide (x < y)

def binD : Bop → D → D → Option D
  | .add, .int a, .int b => some (.int (a + b))
  | .add, .lst a, .lst b => if a.length + b.length ≤ szLine then some (.lst (a ++ b)) else none
  | .add, .tup a, .tup b => if a.length + b.length ≤ szLine then some (.tup (a ++ b)) else none
  | .sub, .int a, .int b => some (.int (a - b))
  | .mul, .int a, .int b => if (-(2 ^ 64) < a ∧ a < 2 ^ 64) ∨ (-(2 ^ 64) < b ∧ b < 2 ^ 64) then some (.int (a * b)) else none
  | .mul, .lst a, .int k => if -(2 ^ 63) ≤ k ∧ k < 2 ^ 63 ∧ a.length * k.toNat ≤ szLine then some (.lst (List.replicate k.toNat a).flatten) else none
  | .fdiv, .int a, .int b => if 0 < b ∧ b < 1073741824 then some (.int (a / b)) else none
  | .mod, .int a, .int b => if 0 < b then some (.int (a % b)) else none
  | .pow, .int a, .int b => if 0 ≤ b ∧ b ≤ 1000000 ∧ a.natAbs < 2 ^ 64 then some (.int (a ^ b.toNat)) else none
  | .shl, .int a, .int b => if 0 ≤ b ∧ b ≤ 1000000 ∧ a.natAbs < 2 ^ 64 then some (.int (a * 2 ^ b.toNat)) else none
  | .shr, .int a, .int b => if 0 ≤ b then some (.int (a / 2 ^ b.toNat)) else none
  | .band, .int a, .int b => if 0 ≤ a ∧ 0 ≤ b then some (.int (Int.ofNat (a.toNat &&& b.toNat))) else none
  | _, _, _ => none

def keyOk (t : Bool) : D → Bool
  | .int _ => !t
  | .tup ks => t && ks.all fun k => match k with | .int _ => true | _ => false
  | _ => false

def look (k : D) : List (D × D) → Option D
  | [] => none
  | (a, v) :: r => if D.same a k then some v else look k r
def put (k v : D) : List (D × D) → List (D × D)
  | [] => [(k, v)]
  | (a, w) :: r => if D.same a k then (a, v) :: r else (a, w) :: put k v r

def eqD (a b : D) : Option Bool :=
  match a, b with
  | .rep x, .rep y => if D.same x y then some true else none
  | a, b => if D.shp a 60 && D.shp b 60 then some (D.eqv a b) else none

def inD (a b : D) : Option Bool :=
  match b with
  | .lst xs => if D.shp a 60 && D.shpL xs 60 then some (xs.any fun x => D.eqv x a) else none
  | .tup xs => if D.shp a 60 && D.shpL xs 60 then some (xs.any fun x => D.eqv x a) else none
  | .dct t kvs => if keyOk t a then some (look a kvs).isSome else none
  | _ => none

def ordD (op : Int → Int → Bool) (top : List Int → List Int → Bool) : D → D → Option Bool
  | .int a, .int b => some (op a b)
  | .tup a, .tup b => match D.intsOf a, D.intsOf b with | some x, some y => some (top x y) | _, _ => none
  | _, _ => none

def cmpD : Cop → D → D → Option Bool
  | .eq, a, b => eqD a b
  | .ne, a, b => (eqD a b).map (!·)
  | .lt, a, b => ordD (fun x y => decide (x < y)) lexLt a b
  | .le, a, b => ordD (fun x y => decide (x ≤ y)) (fun x y => !lexLt y x) a b
  | .gt, .int x, .int y => some (decide (y < x))
  | .ge, .int x, .int y => some (decide (y ≤ x))
  | .isin, a, b => inD a b
  | .notin, a, b => (inD a b).map (!·)
  | .isnon, a, .non => some (match a with | .non => true | _ => false)
  | .notnon, a, .non => some (match a with | .non => false | _ => true)
  | _, _, _ => none

/-- the place of an index -/
def place (n : Nat) (i : Int) : Option Nat := if 0 ≤ i then (if i < n then some i.toNat else none) else if -(n : Int) ≤ i then some (i + n).toNat else none

def idxD : D → D → Option D
  | .lst xs, .int i => (place xs.length i).bind fun j => xs[j]?
  | .tup xs, .int i => (place xs.length i).bind fun j => xs[j]?
  | .dct t kvs, k => if keyOk t k then look k kvs else none
  | _, _ => none

def cutAt (n d : Nat) : Option Int → Nat
  | none => d
  | some v => if v < 0 then (v + (n : Int)).toNat else min v.toNat n
def partD : Bool → D → Option (Option Int)
  | true, .int v => some (some v)
  | false, .non => some none
  | _, _ => none
def cutL (xs : List D) (lo hi : Option Int) : List D := (xs.drop (cutAt xs.length 0 lo)).take (cutAt xs.length xs.length hi - cutAt xs.length 0 lo)
def slcD (hl hh : Bool) (x lo hi : D) : Option D :=
  match partD hl lo, partD hh hi with
  | some a, some b => match x with
    | .lst xs => some (.lst (cutL xs a b))
    | .tup xs => some (.tup (cutL xs a b))
    | _ => none
  | _, _ => none

def revD : D → Option D
  | .lst xs => some (.lst xs.reverse)
  | _ => none

inductive Bi where | bin (o : Bop) | cmp (o : Cop) | neg | idx | slc (hl hh : Bool) | rev | ixof | cnt | len | sum | max1 | min1 | max2 | min2 | abs | toint | totup | tolst | sorted | repr | mint | any | all | dict (t : Bool) | lrange1 | lrange2 | lrange3 | isint | isbool | istup | islst | isstr
  deriving DecidableEq

mutual
/-- x < y of alike data -/
def ltD : D → D → Bool
  | .int a, .int b => decide (a < b)
  | .tup a, .tup b => ltL a b
  | .lst a, .lst b => ltL a b
  | _, _ => false
def ltL : List D → List D → Bool
  | [], [] => false
  | [], _ :: _ => true
  | _ :: _, [] => false
  | x :: xs, y :: ys => if D.eqv x y then ltL xs ys else ltD x y
end
mutual
/-- alike: intsOf, or tuples (lists) of alike things place by place -/
def alk : D → D → Bool
  | .int _, .int _ => true
  | .lst xs, .lst ys => alkL xs ys
  | .tup xs, .tup ys => alkL xs ys
  | _, _ => false
def alkL : List D → List D → Bool
  | x :: xs, y :: ys => alk x y && alkL xs ys
  | _, _ => true
end

def insD (x : D) : List D → List D
  | [] => [x]
  | y :: ys => if ltD y x then y :: insD x ys else x :: y :: ys
def sortD : List D → List D
  | [] => []
  | x :: xs => insD x (sortD xs)

def pairsOf : List D → Option (List (D × D))
  | [] => some []
  | .tup [a, b] :: r => (pairsOf r).map ((a, b) :: ·)
  | _ :: _ => none
def rangeD (a b c : Int) : Option (List D) :=
  if c ≠ 0 ∧ c.natAbs < 1073741824 ∧ a.natAbs < 1073741824 ∧ b.natAbs < 1073741824 then
    let n := (if c > 0 then (if a < b then (b - a - 1) / c + 1 else 0) else if a > b then (a - b - 1) / (-c) + 1 else 0).toNat
    if n ≤ szLine then some ((List.range n).map fun (i : Nat) => D.int (a + (i : Int) * c)) else none
  else none

def maxI : Int → List Int → Int
  | m, [] => m
  | m, x :: r => maxI (if x > m then x else m) r
def minI : Int → List Int → Int
  | m, [] => m
  | m, x :: r => minI (if x < m then x else m) r

def biD : Bi → List D → Option D
  | .bin o, [x, y] => binD o x y
  | .cmp o, [x, y] => (cmpD o x y).map .bl
  | .neg, [.int i] => some (.int (-i))
  | .idx, [x, y] => idxD x y
  | .slc hl hh, [x, y, z] => slcD hl hh x y z
  | .rev, [x] => revD x
  | .ixof, [x, .int k] => (D.items x).bind fun xs => (D.intsOf xs).bind fun ns => if k ∈ ns then some (.int (ns.idxOf k : Nat)) else none
  | .cnt, [x, .int y] => (D.items x).bind fun xs => (D.intsOf xs).map fun ns => .int (ns.count y : Nat)
  | .len, [.lst xs] => some (.int xs.length)
  | .len, [.tup xs] => some (.int xs.length)
  | .sum, [.lst xs] => (D.intsOf xs).bind fun ns => some (.int ns.sum)
  | .max1, [.lst xs] => (D.intsOf xs).bind fun ns => match ns with | [] => none | m :: r => some (.int (maxI m r))
  | .min1, [.lst xs] => (D.intsOf xs).bind fun ns => match ns with | [] => none | m :: r => some (.int (minI m r))
  | .max2, [.int i, .int j] => some (.int (if j > i then j else i))
  | .min2, [.int i, .int j] => some (.int (if j < i then j else i))
  | .abs, [.int i] => some (.int (if i < 0 then -i else i))
  | .toint, [.int i] => some (.int i)
  | .toint, [.bl b] => some (.int (if b then 1 else 0))
  | .totup, [.lst xs] => some (.tup xs)
  | .totup, [.tup xs] => some (.tup xs)
  | .tolst, [.lst xs] => some (.lst xs)
  | .tolst, [.tup xs] => some (.lst xs)
  | .sorted, [.lst xs] => if xs.all (fun x => xs.all fun y => alk x y) && D.shpL xs 60 && (xs.all (fun x => match x with | .int _ => true | _ => false) || xs.all (fun x => match x with | .tup (_ :: _) => true | _ => false)) then some (.lst (sortD xs)) else none
  | .repr, [x] => if D.shp x 50 && decide (D.rsz x ≤ 8388608) then some (.rep x) else none
  | .any, [.lst xs] => (D.bools xs).map fun bs => .bl (bs.any id)
  | .all, [.lst xs] => (D.bools xs).map fun bs => .bl (bs.all id)
  | .dict false, [.lst xs] => (pairsOf xs).bind fun ps => if ps.all (fun p => keyOk false p.1) then some (.dct false (ps.foldl (fun kvs p => put p.1 p.2 kvs) [])) else none
  | .mint, [.lst (x :: xs)] => if (x :: xs).all (fun a => (x :: xs).all fun b => alk a b) && D.shpL (x :: xs) 60 then some (xs.foldl (fun a y => if ltD y a then y else a) x) else none
  | .lrange1, [.int b] => (rangeD 0 b 1).map .lst
  | .lrange2, [.int a, .int b] => (rangeD a b 1).map .lst
  | .lrange3, [.int a, .int b, .int c] => (rangeD a b c).map .lst
  | _, _ => none

/-- only where tuples are known as they stand -/
def badB : Bi → List D → Bool → Bool
  | .ixof, .tup _ :: _, fz => !fz
  | _, _, _ => false

/-- what is walked -/
inductive Ik where | seq | rng1 | rng2 | rng3 | enum | zip | items | vals | keys
  deriving DecidableEq

def walk : Ik → List D → Option (List D)
  | .seq, [x] => D.items x
  | .rng1, [.int b] => rangeD 0 b 1
  | .rng2, [.int a, .int b] => rangeD a b 1
  | .rng3, [.int a, .int b, .int c] => rangeD a b c
  | .enum, [x] => (D.items x).map fun xs => List.zipWith (fun (i : Nat) (x : D) => D.tup [.int (i : Int), x]) (List.range xs.length) xs
  | .zip, [.lst xs, .lst ys] => some (List.zipWith (fun a b => .tup [a, b]) xs ys)
  | .zip, [.tup xs, .tup ys] => some (List.zipWith (fun a b => .tup [a, b]) xs ys)
  | .items, [.dct _ kvs] => some (kvs.map fun p => .tup [p.1, p.2])
  | .vals, [.dct _ kvs] => some (kvs.map (·.2))
  | .keys, [.dct _ kvs] => some (kvs.map (·.1))
  | _, _ => none

inductive Tg where
  | nm (i : Nat)
  | tp (ts : List Tg)

inductive Ex where
  | var (i : Nat) | bor (i : Nat) | mv (i : Nat) | rel (i : Nat)
  | int (n : Int) | bl (b : Bool) | str (cs : List Nat) | non
  | not (a : Ex)
  | and (a b : Ex) | or (a b : Ex)
  | cmp2 (op op' : Cop) (es : List Ex) (c : Ex)
  | ife (c a b : Ex)
  | tup (es : List Ex) | lst (es : List Ex) | star (es : List Ex)
  | dnew (t : Bool)
  | call (f : Nat) (fresh : Bool) (es : List Ex)
  | bi (b : Bi) (es : List Ex)
  | pop (i : Nat) | popAt (i : Nat) (es : List Ex)
  | sget (i k : Nat)
  | dget (es : List Ex) (d : Ex)
  | comp (own : List Nat) (tg : Tg) (k : Ik) (es : List Ex) (ifs : List Ex) (elt : Ex)
  | comp2 (own own2 : List Nat) (tg : Tg) (k : Ik) (es : List Ex) (ifs : List Ex) (tg2 : Tg) (k2 : Ik) (es2 : List Ex) (ifs2 : List Ex) (elt : Ex)

abbrev Env := List (Option (Bool × D))

def rd (env : Env) (i : Nat) : Option D := match env[i]? with | some (some (_, d)) => some d | _ => none
/-- an own list -/
def ownL (env : Env) (i : Nat) : Bool := match env[i]? with | some (some (true, .lst _)) => true | _ => false
def rdV (env : Env) (i : Nat) : Option D := match env[i]? with | some (some (false, d)) => some d | _ => none

mutual
/-- stores -/
def bindT : Tg → D → Env → Option Env
  | .nm i, d, env => match env[i]? with | some (some (true, _)) => none | _ => some (env.set i (some (false, d)))
  | .tp ts, .tup ds, env => bindTs ts ds env
  | .tp _, _, _ => none
def bindTs : List Tg → List D → Env → Option Env
  | [], [], env => some env
  | t :: ts, d :: ds, env => match bindT t d env with | some env' => bindTs ts ds env' | none => none
  | _, _, _ => none
end

/-- own slots forgotten -/
def wipeE : List Nat → Env → Env
  | [], env => env
  | i :: r, env => (wipeE r env).set i none
def noOwn (own : List Nat) (env : Env) : Bool := own.all fun i => match env[i]? with | some (some (true, _)) => false | _ => true
/-- behind a comprehension: own slots as before -/
def backE : List Nat → Env → Env → Env
  | [], _, env => env
  | i :: r, old, env => (backE r old env).set i (old.getD i none)

/-- may the value be new? -/
def fr : Ex → Bool
  | .mv _ => true
  | .bi (.bin _) _ => true
  | .lst _ => true
  | .dnew _ => true
  | .bi (.slc _ _) _ => true
  | .bi .rev _ => true
  | .call _ f _ => f
  | .bi .tolst _ => true
  | .bi .sorted _ => true
  | .bi (.dict _) _ => true
  | .bi .lrange1 _ => true
  | .bi .lrange2 _ => true
  | .bi .lrange3 _ => true
  | .comp .. => true
  | .comp2 .. => true
  | .ife _ a b => fr a && fr b
  | _ => false

abbrev Cf := Nat → List D → Sr → Option (D × Sr)

/-- turns of a comprehension -/
def turns (f : D → Env → Sr → Option (Option D × Env × Sr)) : List D → List D → Env → Sr → Option (List D × Env × Sr)
  | [], acc, env, s => some (acc.reverse, env, s)
  | x :: xs, acc, env, s => match f x env s with
    | some (some y, env', s') => turns f xs (y :: acc) env' s'
    | some (none, env', s') => turns f xs acc env' s'
    | none => none

/-- turns that gather lists -/
def turns2 (f : D → List D → Env → Sr → Option (List D × Env × Sr)) : List D → List D → Env → Sr → Option (List D × Env × Sr)
  | [], acc, env, s => some (acc, env, s)
  | x :: xs, acc, env, s => match f x acc env s with
    | some (acc', env', s') => turns2 f xs acc' env' s'
    | none => none

variable (cf : Cf)

mutual
def ev : Ex → Env → Sr → Option (D × Env × Sr)
  | .var i, env, s => match rdV env i with | some d => some (d, env, s) | none => none
  | .bor i, env, s => match rd env i with | some d => some (d, env, s) | none => none
  | .mv i, env, s => match env[i]? with | some (some (true, d)) => some (d, env.set i none, s) | _ => none
  | .rel i, env, s => match env[i]? with | some (some (_, d)) => some (d, env.set i (some (false, d)), s) | _ => none
  | .int n, env, s => some (.int n, env, s)
  | .bl b, env, s => some (.bl b, env, s)
  | .str cs, env, s => some (.str cs, env, s)
  | .non, env, s => some (.non, env, s)
  | .not a, env, s => match ev a env s with
    | some (.bl b, env, s) => some (.bl (!b), env, s)
    | _ => none
  | .and a b, env, s => match ev a env s with
    | some (.bl c, env, s) => if c = true then ev b env s else some (.bl false, env, s)
    | _ => none
  | .or a b, env, s => match ev a env s with
    | some (.bl c, env, s) => if c = true then some (.bl true, env, s) else ev b env s
    | _ => none
  | .cmp2 op op' es c, env, s => match evOs es env s with
    | some ([x, .int y], env, s) => match cmpD op x (.int y) with
      | some true => match ev c env s with
        | some (z, env, s) => match cmpD op' (.int y) z with | some d => some (.bl d, env, s) | none => none
        | none => none
      | some false => some (.bl false, env, s)
      | none => none
    | _ => none
  | .ife c a b, env, s => match ev c env s with
    | some (.bl k, env, s) => if k = true then ev a env s else ev b env s
    | _ => none
  | .tup es, env, s => match evs es env s with | some (ds, env, s) => if ds.length ≤ szLine then some (.tup ds, env, s) else none | none => none
  | .lst es, env, s => match evs es env s with | some (ds, env, s) => if ds.length ≤ szLine then some (.lst ds, env, s) else none | none => none
  | .star _, _, _ => none
  | .dnew t, env, s => if t && s.fz then none else some (.dct t [], env, s)
  | .call f _ es, env, s => match evs es env s with
    | some (ds, env, s) => match cf f ds s with | some (d, s) => some (d, env, s) | none => none
    | none => none
  | .bi b es, env, s => match evOs es env s with
    | some (ds, env, s1) => if badB b ds s.fz then none else match biD b ds with | some d => some (d, env, s1) | none => none
    | none => none
  | .pop i, env, s => match env[i]? with
    | some (some (true, .lst xs)) => match xs.getLast? with
      | some d => some (d, env.set i (some (true, .lst xs.dropLast)), s)
      | none => none
    | _ => none
  | .popAt i es, env, s => if ownL env i then match evOs es env s with
    | some ([.int k], env, s) => match env[i]? with
      | some (some (true, .lst xs)) => match place xs.length k with
        | some j => match xs[j]? with
          | some d => some (d, env.set i (some (true, .lst (xs.eraseIdx j))), s)
          | none => none
        | none => none
      | _ => none
    | _ => none
    else none
  | .sget i k, env, s => match rdV env i with | some .src => some (.int (s.fld k), env, s) | _ => none
  | .dget es d, env, s => match evOs es env s with
    | some ([.dct t kvs, k], env, s) => match ev d env s with
      | some (e, env, s) => if keyOk t k then some ((look k kvs).getD e, env, s) else none
      | none => none
    | _ => none
  | .comp own tg k es ifs elt, env, s => match evOs es env s with
    | some (ds, env, s) => match walk k ds with
      | some xs => if noOwn own env then
          match turns (fun x env s => match bindT tg x (wipeE own env) with
              | some env => match tests ifs env s with
                | some (true, env, s) => match ev elt env s with
                  | some (d, env, s) => some (some d, env, s)
                  | none => none
                | some (false, env, s) => some (none, env, s)
                | none => none
              | none => none) xs [] env s with
          | some (ys, env', s) => some (.lst ys, backE own env env', s)
          | none => none
        else none
      | none => none
    | none => none
  | .comp2 own own2 tg k es ifs tg2 k2 es2 ifs2 elt, env, s => match evOs es env s with
    | some (ds, env, s) => match walk k ds with
      | some xs => if noOwn own env then
          match turns2 (fun x acc env s => match bindT tg x (wipeE own env) with
              | some env => match tests ifs env s with
                | some (true, env, s) => match evOs es2 env s with
                  | some (ds2, env, s) => match walk k2 ds2 with
                    | some zs => turns2 (fun z acc env s => match bindT tg2 z (wipeE own2 env) with
                        | some env => match tests ifs2 env s with
                          | some (true, env, s) => match ev elt env s with
                            | some (d, env, s) => if acc.length < szLine then some (acc ++ [d], env, s) else none
                            | none => none
                          | some (false, env, s) => some (acc, env, s)
                          | none => none
                        | none => none) zs acc env s
                    | none => none
                  | none => none
                | some (false, env, s) => some (acc, env, s)
                | none => none
              | none => none) xs [] env s with
          | some (ys, env', s) => some (.lst ys, backE own env env', s)
          | none => none
        else none
      | none => none
    | none => none
/-- operands: names are looked at last -/
def evOs : List Ex → Env → Sr → Option (List D × Env × Sr)
  | [], env, s => some ([], env, s)
  | .bor i :: es, env, s => match rd env i with
    | none => none
    | some _ => match evOs es env s with
      | some (ds, env, s) => match rd env i with | some d => some (d :: ds, env, s) | none => none
      | none => none
  | e :: es, env, s => match ev e env s with
    | some (d, env, s) => match evOs es env s with
      | some (ds, env, s) => some (d :: ds, env, s)
      | none => none
    | none => none
/-- arguments, items -/
def evs : List Ex → Env → Sr → Option (List D × Env × Sr)
  | [], env, s => some ([], env, s)
  | .star es1 :: es, env, s => match evOs es1 env s with
    | some ([x], env, s) => match D.items x with
      | some xs => match evs es env s with
        | some (ds, env, s) => some (xs ++ ds, env, s)
        | none => none
      | none => none
    | _ => none
  | e :: es, env, s => match ev e env s with
    | some (d, env, s) => match evs es env s with
      | some (ds, env, s) => some (d :: ds, env, s)
      | none => none
    | none => none
def tests : List Ex → Env → Sr → Option (Bool × Env × Sr)
  | [], env, s => some (true, env, s)
  | e :: es, env, s => match ev e env s with
    | some (.bl true, env, s) => tests es env s
    | some (.bl false, env, s) => some (false, env, s)
    | _ => none
end

inductive Sm where
  | asg (i : Nat) (e : Ex) | asgO (i : Nat) (e : Ex)
  | asgT (tg : Tg) (e : Ex)
  | par (own : List Bool) (is : List Nat) (es : List Ex)
  | set (i : Nat) (es : List Ex) (e : Ex)
  | aug (i : Nat) (o : Bop) (es : List Ex)
  | app (i : Nat) (e : Ex) | ext (i : Nat) (es : List Ex)
  | expr (e : Ex)
  | ite (c : Ex) (t f : List Sm)
  | for (tg : Tg) (k : Ik) (es : List Ex) (b : List Sm)
  | whl (c : Ex) (b : List Sm)
  | sput (i k : Nat) (e : Ex) | sfill (i j : Nat)
  | ret (e : Ex) | retN | brk | cnt | bad

inductive Out where
  | nx (env : Env) (s : Sr)
  | rt (d : D) (s : Sr)
  | bk (env : Env) (s : Sr)
  | ct (env : Env) (s : Sr)

def forT (f : D → Env → Sr → Option Out) : List D → Env → Sr → Option Out
  | [], env, s => some (.nx env s)
  | x :: xs, env, s => match f x env s with
    | some (.nx env s) => forT f xs env s
    | some (.ct env s) => forT f xs env s
    | some (.bk env s) => some (.nx env s)
    | some (.rt d s) => some (.rt d s)
    | none => none
def whlT (c : Env → Sr → Option (D × Env × Sr)) (f : Env → Sr → Option Out) : Nat → Env → Sr → Option Out
  | 0, _, _ => none
  | n + 1, env, s => match c env s with
    | some (.bl true, env, s) => match f env s with
      | some (.nx env s) => whlT c f n env s
      | some (.ct env s) => whlT c f n env s
      | some (.bk env s) => some (.nx env s)
      | some (.rt d s) => some (.rt d s)
      | none => none
    | some (.bl false, env, s) => some (.nx env s)
    | _ => none
def setD (c k d : D) : Option D :=
  match c, k with
  | .lst xs, .int i => match place xs.length i with | some j => some (.lst (xs.set j d)) | none => none
  | .dct t kvs, k => if keyOk t k && decide (kvs.length < szLine) then some (.dct t (put k d kvs)) else none
  | _, _ => none
/-- several slots stored -/
def putsE : List Bool → List Nat → List Ex → List D → Env → Option Env
  | [], [], [], [], env => some env
  | o :: os, i :: is, e :: es, d :: ds, env => if (!o || fr e) && !(is.contains i) then putsE os is es ds (env.set i (some (o, d))) else none
  | _, _, _, _, _ => none

variable (ff : Bool) (fuel : Nat)
mutual
def evS : Sm → Env → Sr → Option Out
  | .asg i e, env, s => match ev cf e env s with | some (d, env, s) => some (.nx (env.set i (some (false, d))) s) | none => none
  | .asgO i e, env, s => if fr e then match ev cf e env s with | some (d, env, s) => some (.nx (env.set i (some (true, d))) s) | none => none else none
  | .asgT tg e, env, s => match ev cf e env s with
    | some (d, env, s) => match bindT tg d env with | some env => some (.nx env s) | none => none
    | none => none
  | .par own is es, env, s => match evs cf es env s with
    | some (ds, env, s) => match putsE own is es ds env with | some env => some (.nx env s) | none => none
    | none => none
  | .set i es e, env, s => match ev cf e env s with
    | some (d, env, s) => match rd env i with
      | some _ => match evOs cf es env s with
        | some ([k], env, s) => match env[i]? with
          | some (some (true, c)) => match setD c k d with | some c => some (.nx (env.set i (some (true, c))) s) | none => none
          | _ => none
        | _ => none
      | none => none
    | none => none
  | .aug i o es, env, s => match rdV env i with
    | some x => match evOs cf es env s with
      | some ([y], env, s) => match binD o x y with
        | some (.int d) => some (.nx (env.set i (some (false, .int d))) s)
        | _ => none
      | _ => none
    | none => none
  | .app i e, env, s => if ownL env i then match ev cf e env s with
    | some (d, env, s) => match env[i]? with
      | some (some (true, .lst xs)) => if xs.length < szLine then some (.nx (env.set i (some (true, .lst (xs ++ [d])))) s) else none
      | _ => none
    | none => none
    else none
  | .ext i es, env, s => if ownL env i then match evOs cf es env s with
    | some ([x], env, s) => match x, env[i]? with
      | .lst ys, some (some (true, .lst xs)) => if xs.length + ys.length ≤ szLine then some (.nx (env.set i (some (true, .lst (xs ++ ys)))) s) else none
      | _, _ => none
    | _ => none
    else none
  | .sput i k e, env, s => match ev cf e env s with
    | some (.int n, env, s) => match rdV env i with | some .src => some (.nx env (s.putF n k)) | _ => none
    | _ => none
  | .sfill i j, env, s => if i = j ∨ env.length ≤ j then none else match rdV env i with | some .src => some (.nx (env.set j none) s.fill) | _ => none
  | .expr e, env, s => match ev cf e env s with | some (_, env, s) => some (.nx env s) | none => none
  | .ite c t f, env, s => match ev cf c env s with
    | some (.bl k, env, s) => if k = true then evSs t env s else evSs f env s
    | _ => none
  | .for tg k es b, env, s => match evOs cf es env s with
    | some (ds, env, s) => match walk k ds with
      | some xs => forT (fun x env s => match bindT tg x env with | some env => evSs b env s | none => none) xs env s
      | none => none
    | none => none
  | .whl c b, env, s => whlT (fun env s => ev cf c env s) (fun env s => evSs b env s) fuel env s
  | .ret e, env, s => if ff && !fr e then none else match ev cf e env s with | some (d, _, s) => some (.rt d s) | none => none
  | .retN, _, s => if ff then none else some (.rt .non s)
  | .brk, env, s => some (.bk env s)
  | .cnt, env, s => some (.ct env s)
  | .bad, _, _ => none
def evSs : List Sm → Env → Sr → Option Out
  | [], env, s => some (.nx env s)
  | st :: r, env, s => match evS st env s with
    | some (.nx env s) => evSs r env s
    | o => o
end

structure Fd where
  np : Nat
  ns : Nat
  fresh : Bool
  body : List Sm
inductive Fn where
  | py (d : Fd)
  | prim (f : List D → Sr → Option (D × Sr))

def startE (n : Nat) (ds : List D) : Env := ds.map (fun d => some (false, d)) ++ List.replicate (n - ds.length) none

def runF (cf : Cf) (fuel : Nat) (fd : Fd) (ds : List D) (s : Sr) : Option (D × Sr) :=
  if ds.length = fd.np then
    match evSs cf fd.fresh fuel fd.body (startE fd.ns ds) s with
    | some (.rt d s) => some (d, s)
    | some (.nx _ s) => if fd.fresh then none else some (.non, s)
    | _ => none
  else none
def callF (tb : Nat → Option Fn) (fuel : Nat) : Nat → Cf
  | 0, _, _, _ => none
  | k + 1, f, ds, s => match tb f with
    | some (.py fd) => runF (callF tb fuel k) fuel fd ds s
    | some (.prim g) => g ds s
    | none => none

end Rf
end

section
set_option linter.all false
set_option Elab.async false
set_option maxRecDepth 100000
namespace Rf
open PySem L2 PyProof.Rows

/-! tuples: plain, or known as they stand -/
def tupO (fz : Bool) (o : Obj) (xs : List V) : HO := match fz with
  | true => .frz o (.tup xs)
  | false => .tup xs
def TupAt (fz : Bool) (H : Hp) (a : Addr) (xs : List V) : Prop := match fz with
  | true => ∃ o, H a = some (.frz o (.tup xs)) ∧ o.dict = none
  | false => H a = some (.tup xs)
theorem TupAt.rd {fz : Bool} {H : Hp} {a : Addr} {xs : List V} (h : TupAt fz H a xs) : Rd H a (.tup xs) := by
  cases fz with
  | true => obtain ⟨o, h, _⟩ := h; exact .inr ⟨o, h⟩
  | false => exact .inl h
theorem TupAt.sq {fz : Bool} {K : PySem.W.Frag} {H : Hp} {a : Addr} {xs : List V} (h : TupAt fz H a xs) : SqT K H a xs := .inl h.rd
theorem TupAt.some {fz : Bool} {H : Hp} {a : Addr} {xs : List V} (h : TupAt fz H a xs) : ∃ o, H a = some o := by
  cases fz with
  | true => obtain ⟨o, h, _⟩ := h; exact ⟨_, h⟩
  | false => exact ⟨_, h⟩
theorem TupAt.new {fz : Bool} {H : Hp} {p : Addr} {o : Obj} {xs : List V} (h : o.dict = none) : TupAt fz (upd H p (tupO fz o xs)) p xs := by
  cases fz with
  | true => exact ⟨o, upd_same, h⟩
  | false => exact upd_same
theorem TupAt.keep {fz : Bool} {H H' : Hp} {a : Addr} {xs : List V} (h : TupAt fz H a xs) (k : ∀ o, H a = Option.some o → H' a = Option.some o) : TupAt fz H' a xs := by
  cases fz with
  | true => obtain ⟨o, h, hd⟩ := h; exact ⟨o, k _ h, hd⟩
  | false => exact k _ h
section
variable {X : Cx} {pins : List (Addr × Obj)} {σ : L2.St} {H : Hp} {s : Shared}
/-- a new tuple, in either way -/
theorem laidT {h' : Heap} {a : Addr} {t' : Nat} {xs : List V} {its : List Value} (fz : Bool) (I : Inv X pins σ H s) (k : ∀ b u, s.heap.get? b = some u → h'.get? b = some u) (hp : s.heap.objs.size ≤ a) (hz : xs.length ≤ sizeLine) (r : Vals xs its)
    (e : h'.get? a = some { cls := .type "tuple", data := .seq its.toArray }) : Inv X pins σ (upd H a (tupO fz { cls := .type "tuple", data := .seq its.toArray } xs)) { s with heap := h', toks := t' } := by
  refine I.laid k hp ?_
  cases fz with
  | true => exact ⟨e, hz, its, r, _, e, rfl, _, rfl⟩
  | false => exact ⟨hz, its, r, _, e, rfl, _, rfl⟩
def tTupF (t : TA) : TE := fun σ H Q => t σ H fun xs H1 => xs.length ≤ sizeLine ∧ ∃ fz, ∀ p o, o.dict = none → H1 p = none → Q (.ref p) (upd H1 p (tupO fz o xs))
theorem pe_tupF {es : List Expr} {x1 : Nat} {pos : Pos} {t : TA} (h : PA X es t) : PE X (.Tuple es x1 pos) (tTupF t) := by
  refine ⟨fun pins s σ H Q I hq => ?_⟩
  refine wpAny_Tuple_spliced (thn (h.run pos pins s σ H _ I hq) fun us s1 w => ?_)
  obtain ⟨xs, H1, I1, r, z, fz, q⟩ := w
  refine ⟨by rw [← r.length]; exact z, .ref s1.heap.objs.size, _, laidT (t' := s1.toks) fz I1 (fun b u e => Heap.get?_push_of_some _ e) (Nat.le_refl _) z r (Heap.get?_push_size _ rfl), rfl, ?_⟩
  exact q _ _ rfl (I1.hok.fresh (Nat.le_refl _))
/-- t + u -/
def rCatF (K : PySem.W.Frag) : R2 := fun x y H Q => ∃ fz a b xs ys, x = .ref a ∧ y = .ref b ∧ SqT K H a xs ∧ SqT K H b ys ∧ xs.length + ys.length ≤ sizeLine ∧
  (xs = [] → Q (.ref b) H) ∧ (xs ≠ [] → ys = [] → Q (.ref a) H) ∧ (xs ≠ [] → ys ≠ [] → ∀ p o, o.dict = none → H p = none → Q (.ref p) (upd H p (tupO fz o (xs ++ ys))))
theorem op_catF : OpR X (binaryOp .Add) (rCatF X.K) := by
  intro pins s σ H x y v u Q I rx ry h
  obtain ⟨fz, a, b, xs, ys, rfl, rfl, ha, hb, hz, q0, q1, q2⟩ := h
  by_cases hx : xs = []
  · exact op_catA pins s σ H _ _ v u Q I rx ry ⟨a, b, xs, ys, rfl, rfl, ha, hb, hz, q0, q1, fun w => absurd hx w⟩
  by_cases hy : ys = []
  · exact op_catA pins s σ H _ _ v u Q I rx ry ⟨a, b, xs, ys, rfl, rfl, ha, hb, hz, q0, q1, fun _ w => absurd hy w⟩
  cases rx
  cases ry
  obtain ⟨us, r1, p1, _⟩ := I.tuple ha
  obtain ⟨ws, r2, p2, _⟩ := I.tuple hb
  refine HT.cat_tup p1 p2 (fun z => hx (r1.nil_iff.mp z)) (fun z => absurd (r2.nil_iff.mp z) hy) (fun _ => ?_) (by rw [← r1.length, ← r2.length]; exact hz)
  exact ⟨.ref s.heap.objs.size, _, laidT (t' := s.toks) fz I (fun b ob q => Heap.get?_push_of_some _ q) (Nat.le_refl _) (by rw [List.length_append]; exact hz) (r1.append r2) (Heap.get?_push_size _ rfl), rfl, q2 hx hy _ _ rfl (I.hok.fresh (Nat.le_refl _))⟩
/-- t[lo:hi] -/
def rSlF (K : PySem.W.Frag) : V → Option Int → Option Int → Hp → VK → Prop := fun x lo hi H Q => ∃ fz a xs, x = .ref a ∧ SqT K H a xs ∧
  (HT.sIx xs.length 0 lo = 0 ∧ HT.sIx xs.length xs.length hi = xs.length → Q (.ref a) H) ∧ (¬ (HT.sIx xs.length 0 lo = 0 ∧ HT.sIx xs.length xs.length hi = xs.length) → ∀ p o, o.dict = none → H p = none → Q (.ref p) (upd H p (tupO fz o (cutV xs lo hi))))
theorem sl_tupF : L2.SlR X (rSlF X.K) := by
  intro pins s σ H x v vl vu lo hi sl Q I rx hs pl pu h
  obtain ⟨fz, a, xs, rfl, hx, q1, q2⟩ := h
  by_cases hw : HT.sIx xs.length 0 lo = 0 ∧ HT.sIx xs.length xs.length hi = xs.length
  · exact sl_tupA pins s σ H _ v vl vu lo hi sl Q I rx hs pl pu ⟨a, xs, rfl, hx, q1, fun w => absurd hw w⟩
  · cases rx
    obtain ⟨us, r, ht, hz⟩ := I.tuple hx
    have hl : us.toArray.size = xs.length := by rw [List.size_toArray]; exact r.length.symm
    refine ⟨"tuple", _, PyProof.Rows.slot_tuple_getitem.lookup, ht.typeIs, HT.getItem_tuple_cut ht hs pl pu (by rw [hl]; exact hw) ?_ (by rw [hl]; exact hz)⟩
    rw [hl]
    exact ⟨.ref s.heap.objs.size, _, laidT (t' := s.toks) fz I (fun b ob q => Heap.get?_push_of_some _ q) (Nat.le_refl _) (Nat.le_trans (cutV_length xs lo hi) hz) ((r.drop (HT.sIx xs.length 0 lo)).take _) (Heap.get?_push_size _ rfl), rfl, q2 hw _ _ rfl (I.hok.fresh (Nat.le_refl _))⟩
/-- tuple(x) -/
def rTupF (K : PySem.W.Frag) : List V → Hp → VK → Prop := fun xs H Q => ∃ fz p ys, xs = [.ref p] ∧ ((SqL K H p ys ∧ ∀ l o, o.dict = none → H l = none → Q (.ref l) (upd H l (tupO fz o ys))) ∨ (SqT K H p ys ∧ Q (.ref p) H))
theorem call_tupleF : CallR X (.type "tuple") (rTupF X.K) := by
  intro pins s σ H xs us Q I r h
  obtain ⟨fz, p, ys, rfl, h⟩ := h
  rcases h with ⟨hq, q⟩ | ⟨hq, q⟩
  · obtain ⟨u, rfl, rx⟩ := vals1 r
    cases rx
    obtain ⟨ws, r', pl, hz⟩ := I.list hq
    have hl := r'.length
    refine call_tuple_list pl.isList (fun h' kp => ?_) (by simp only [List.size_toArray] <;> omega)
    have I1 : Inv X pins σ H { s with heap := h' } := I.kept (t' := s.toks) kp
    have I2 := laidT (t' := s.toks) (h' := h'.push { cls := .type "tuple", data := .seq ws.toArray }) fz I1 (fun b o e => Heap.get?_push_of_some _ e) (Nat.le_refl h'.objs.size) hz r' (Heap.get?_push_size _ rfl)
    exact ⟨.ref h'.objs.size, _, I2, rfl, q _ _ rfl (I1.hok.fresh (Nat.le_refl _))⟩
  · exact call_tuple_of pins s σ H _ us Q I r ⟨p, ys, rfl, .inr ⟨hq, q⟩⟩
/-- t.index(k), numbers -/
def rIxT : V → List V → Hp → VK → Prop := fun x vs H Q => ∃ (p : Addr) (ns : List Int) (k : Int) (o : Obj), x = .ref p ∧ vs = [.int k] ∧ H p = some (.frz o (.tup (ns.map V.int))) ∧ k ∈ ns ∧ Q (.int (ns.idxOf k : Nat)) H
def rIxL (K : PySem.W.Frag) : V → List V → Hp → VK → Prop := fun x vs H Q => ∃ (p : Addr) (ns : List Int) (k : Int), x = .ref p ∧ vs = [.int k] ∧ SqL K H p (ns.map V.int) ∧ k ∈ ns ∧ Q (.int (ns.idxOf k : Nat)) H
theorem mt_ixT : MtR X "tuple.index" rIxT := by
  intro pins s σ H x xs v us Q I rx rxs h
  obtain ⟨p, ns, k, o, rfl, rfl, hp, hk, q⟩ := h
  cases rx
  obtain ⟨u, rfl, ru⟩ := vals1 rxs
  obtain ⟨t, rfl⟩ := ru
  obtain ⟨ho, hz, its, r, hT⟩ := I.hok p _ hp
  obtain ⟨o', ho', hc, n, hd⟩ := hT
  refine PySem.SeqAt.tuple_index_ints (vs := its) ⟨o', ho', hc, n, hd⟩ (intsAre_of r) hk ?_
  exact ⟨.int _, H, I.tok _, ⟨_, rfl⟩, q⟩
theorem mt_ixL : MtR X "list.index" (rIxL X.K) := by
  intro pins s σ H x xs v us Q I rx rxs h
  obtain ⟨p, ns, k, rfl, rfl, hp, hk, q⟩ := h
  cases rx
  obtain ⟨u, rfl, ru⟩ := vals1 rxs
  obtain ⟨t, rfl⟩ := ru
  obtain ⟨its, r, pl, hz⟩ := I.list hp
  have hl : ns.length ≤ sizeLine := by rw [List.length_map] at hz; exact hz
  refine PySem.SeqAt.list_index_ints (vs := its) pl.isList (intsAre_of r) hl hk ?_
  exact ⟨.int _, H, I.tok _, ⟨_, rfl⟩, q⟩
/-- x.index(k), whatever x is: the receiver's kind is looked up behind the evaluation -/
theorem pe_ixT {o e : Expr} {to : TE} {t : TA} {apos cpos : Pos} (ho : PE X o to) (ha : PA X [e] t)
    (hbase : attributeBase o "index" X.env (eval o X.env) = eval o X.env := by rfl)
    (hfew : ((backTo cpos (starEach [e] X.env)).all (fun x => !x.1) && (backToKw cpos (keywordEach [] X.env)).all (fun x => x.1.isSome)
      && decide ([e].length + ([] : List Keyword).length + (if ([] : List Keyword).isEmpty then 0 else 1) < 30)) = true := by rfl)
    (hline : (apos.endLine == cpos.line) = true := by rfl) (hs : starEach [e] X.env = (false, eval e X.env) :: starEach [] X.env := by rfl) (hplain : (backTo cpos (starEach [] X.env)).any (·.1) = false := by rfl) :
    PE X (.Call (.Attribute o "index" apos) [e] [] cpos) (fun σ H Q => to σ H fun x H1 => ∃ p ob xs, x = .ref p ∧ H1 p = some (.frz ob (.tup xs)) ∧ ob.dict = none ∧ t σ H1 fun vs H2 => rIxT x vs H2 Q) := by
  refine ⟨fun pins s σ H Q I h => ?_⟩
  refine wpAny_Call_method_late hbase hfew hline rfl (thn (ho.run pins s σ H _ I h) fun v s1 w => ?_)
  obtain ⟨x, H1, I1, r1, p, ob, xs, rfl, hp, hd, q1⟩ := w
  cases r1
  obtain ⟨hob, hz, its, r, hT⟩ := I1.hok p _ hp
  refine ⟨"tuple", "tuple.index", F.plainAttrs_tuple, F.slot_tuple_index, F.type_tuple_index, hT.typeIs, fun a ea => ?_, ?_⟩
  · cases ea
    exact ⟨ob, hob, hd⟩
  have hA := ha.run cpos pins s1 σ H1 _ I1 q1
  rw [hs] at hA ⊢
  refine Calls.callWith_builtin (by show (false || (backTo cpos (starEach [] X.env)).any (·.1)) = false; rw [hplain] <;> rfl) (Calls.evalArgs_plain ?_)
  exact thn hA fun us s2 ⟨vs, H2, I2, r2, q2⟩ => mt_ixT pins s2 σ H2 (.ref p) vs (.ref p) us Q I2 rfl r2 q2
end
end Rf
end

section
set_option linter.all false
set_option Elab.async false
set_option maxRecDepth 100000
namespace Rf
open PySem L2

/-- the source's place; whether tuples are known as they stand -/
structure AS where
  a : Addr
  fz : Bool
/-! what stands for what -/
def codes (cs : List Nat) : Str := ⟨cs.toArray⟩
mutual
def toPy : D → Option PyData
  | .non => some .none
  | .bl b => some (.bool b)
  | .int i => some (.int i)
  | .str cs => some (.str (codes cs))
  | .lst xs => (toPys xs).map .list
  | .tup xs => (toPys xs).map .tuple
  | _ => none
def toPys : List D → Option (List PyData)
  | [] => some []
  | x :: xs => (toPy x).bind fun y => (toPys xs).map (y :: ·)
end
def repS (d : D) : Option Str := (toPy d).map PyData.shown
def kD : Key → D
  | .inl i => .int i
  | .inr s => .str s.cps.toList
def kTD (ks : List Key) : D := .tup (ks.map kD)

/-- the keys: as told, none twice -/
def KOk {κ : Type} (toD : κ → D) (kvs : List (κ × V)) (ps : List (D × D)) : Prop := kvs.map (fun k => toD k.1) = ps.map (·.1) ∧ (kvs.map (·.1)).Nodup
mutual
inductive Rep (aS : AS) (A : Addr → Prop) (H : Hp) : V → D → Prop
  | non : Rep aS A H .non .non
  | bl (b : Bool) : Rep aS A H (.bl b) (.bl b)
  | int (i : Int) : Rep aS A H (.int i) (.int i)
  | str (cs : List Nat) : Rep aS A H (.str (codes cs)) (.str cs)
  | rep {d : D} {s : Str} : repS d = some s → Rep aS A H (.str s) (.rep d)
  | lst {a : Addr} {xs : List V} {ds : List D} : ¬ A a → H a = some (.lst xs) → RepL aS A H xs ds → Rep aS A H (.ref a) (.lst ds)
  | tup {a : Addr} {xs : List V} {ds : List D} : ¬ A a → TupAt aS.fz H a xs → RepL aS A H xs ds → Rep aS A H (.ref a) (.tup ds)
  | dctK {a : Addr} {kvs : List (Key × V)} {ps : List (D × D)} : ¬ A a → Rd H a (.dK kvs) → KOk kD kvs ps → RepL aS A H (kvs.map (·.2)) (ps.map (·.2)) → Rep aS A H (.ref a) (.dct false ps)
  | dctT {a : Addr} {kvs : List (List Key × V)} {ps : List (D × D)} : aS.fz = false → ¬ A a → Rd H a (.dT kvs) → KOk kTD kvs ps → RepL aS A H (kvs.map (·.2)) (ps.map (·.2)) → Rep aS A H (.ref a) (.dct true ps)
  | src : Rep aS A H (.ref aS.a) .src
inductive RepL (aS : AS) (A : Addr → Prop) (H : Hp) : List V → List D → Prop
  | nil : RepL aS A H [] []
  | cons {v : V} {vs : List V} {d : D} {ds : List D} : Rep aS A H v d → RepL aS A H vs ds → RepL aS A H (v :: vs) (d :: ds)
end

inductive Top (aS : AS) (A : Addr → Prop) (H : Hp) : Addr → D → Prop
  | lst {a : Addr} {xs : List V} {ds : List D} : H a = some (.lst xs) → RepL aS A H xs ds → Top aS A H a (.lst ds)
  | dctK {a : Addr} {kvs : List (Key × V)} {ps : List (D × D)} : H a = some (.dK kvs) → KOk kD kvs ps → RepL aS A H (kvs.map (·.2)) (ps.map (·.2)) → Top aS A H a (.dct false ps)
  | dctT {a : Addr} {kvs : List (List Key × V)} {ps : List (D × D)} : aS.fz = false → H a = some (.dT kvs) → KOk kTD kvs ps → RepL aS A H (kvs.map (·.2)) (ps.map (·.2)) → Top aS A H a (.dct true ps)

/-- a value as an operand: its own object may be one's own -/
def RepT (aS : AS) (A : Addr → Prop) (H : Hp) (v : V) (d : D) : Prop := Rep aS A H v d ∨ ∃ a, v = .ref a ∧ Top aS A H a d
inductive RepTL (aS : AS) (A : Addr → Prop) (H : Hp) : List V → List D → Prop
  | nil : RepTL aS A H [] []
  | cons {v : V} {vs : List V} {d : D} {ds : List D} : RepT aS A H v d → RepTL aS A H vs ds → RepTL aS A H (v :: vs) (d :: ds)

/-- what stays -/
structure Frm (A A' : Addr → Prop) (tmp : List Addr) (H H' : Hp) : Prop where
  keep : ∀ a o, ¬ A a → H a = some o → H' a = some o
  grow : ∀ a, A' a → A a ∨ H a = none
  tops : ∀ a ∈ tmp, H' a = H a

theorem Frm.refl {A : Addr → Prop} {tmp : List Addr} {H : Hp} : Frm A A tmp H H := ⟨fun _ _ _ h => h, fun _ h => .inl h, fun _ _ => rfl⟩
theorem Frm.trans {A B C : Addr → Prop} {t u : List Addr} {H H1 H2 : Hp} (x : Frm A B t H H1) (y : Frm B C u H1 H2) (ht : ∀ a ∈ t, a ∈ u) : Frm A C t H H2 := by
  refine ⟨fun a o hn h => ?_, fun a h => ?_, fun a h => (y.tops a (ht a h)).trans (x.tops a h)⟩
  · refine y.keep a o (fun hb => ?_) (x.keep a o hn h)
    rcases x.grow a hb with z | z
    · exact hn z
    · rw [z] at h; cases h
  · rcases y.grow a h with z | z
    · exact x.grow a z
    · by_cases hn : A a
      · exact .inl hn
      · cases q : H a with
        | none => exact .inr rfl
        | some o => rw [x.keep a o hn q] at z; cases z

theorem rd_frm {A A' : Addr → Prop} {t : List Addr} {H H' : Hp} (f : Frm A A' t H H') {a : Addr} {u : HO} (hn : ¬ A a) (h : Rd H a u) : Rd H' a u := by
  rcases h with h | ⟨o, h⟩
  · exact .inl (f.keep _ _ hn h)
  · exact .inr ⟨o, f.keep _ _ hn h⟩
theorem rd_some {H : Hp} {a : Addr} {u : HO} (h : Rd H a u) : H a ≠ none := by
  rcases h with h | ⟨o, h⟩ <;> rw [h] <;> simp
theorem frm_not {A A' : Addr → Prop} {t : List Addr} {H H' : Hp} (f : Frm A A' t H H') {a : Addr} (hn : ¬ A a) (h : H a ≠ none) : ¬ A' a := fun z => (f.grow a z).elim hn h
mutual
theorem Rep.frm {aS : AS} {A A' : Addr → Prop} {t : List Addr} {H H' : Hp} (f : Frm A A' t H H') : ∀ {v : V} {d : D}, Rep aS A H v d → Rep aS A' H' v d
  | _, _, .non => .non
  | _, _, .bl b => .bl b
  | _, _, .int i => .int i
  | _, _, .str cs => .str cs
  | _, _, .rep e => .rep e
  | _, _, .lst hn h r => .lst (frm_not f hn (by rw [h]; simp)) (f.keep _ _ hn h) (RepL.frm f r)
  | _, _, .tup hn h r => .tup (frm_not f hn (by obtain ⟨o, e⟩ := h.some; rw [e]; simp)) (h.keep fun o e => f.keep _ _ hn e) (RepL.frm f r)
  | _, _, .dctK hn h e r => .dctK (frm_not f hn (rd_some h)) (rd_frm f hn h) e (RepL.frm f r)
  | _, _, .dctT z hn h e r => .dctT z (frm_not f hn (rd_some h)) (rd_frm f hn h) e (RepL.frm f r)
  | _, _, .src => .src
theorem RepL.frm {aS : AS} {A A' : Addr → Prop} {t : List Addr} {H H' : Hp} (f : Frm A A' t H H') : ∀ {vs : List V} {ds : List D}, RepL aS A H vs ds → RepL aS A' H' vs ds
  | _, _, .nil => .nil
  | _, _, .cons a b => .cons (Rep.frm f a) (RepL.frm f b)
end
theorem Top.frm {aS : AS} {A A' : Addr → Prop} {t : List Addr} {H H' : Hp} (f : Frm A A' t H H') {a : Addr} {d : D} (e : H' a = H a) (x : Top aS A H a d) : Top aS A' H' a d := by
  cases x with
  | lst h r => exact .lst (e.trans h) (r.frm f)
  | dctK h k r => exact .dctK (e.trans h) k (r.frm f)
  | dctT z h k r => exact .dctT z (e.trans h) k (r.frm f)
theorem Top.some {aS : AS} {A : Addr → Prop} {H : Hp} {a : Addr} {d : D} (x : Top aS A H a d) : H a ≠ none := by
  cases x with
  | lst h r => rw [h]; simp
  | dctK h k r => rw [h]; simp
  | dctT z h k r => rw [h]; simp
theorem Top.chg {aS : AS} {A : Addr → Prop} {H : Hp} {a : Addr} {d : D} (x : Top aS A H a d) : d.chg = true := by cases x <;> rfl
/-- one's own object, let go -/
theorem Top.rep {aS : AS} {A : Addr → Prop} {H : Hp} {a : Addr} {d : D} (x : Top aS A H a d) (hn : ¬ A a) : Rep aS A H (.ref a) d := by
  cases x with
  | lst h r => exact .lst hn h r
  | dctK h k r => exact .dctK hn (.inl h) k r
  | dctT z h k r => exact .dctT z hn (.inl h) k r

theorem RepL.length {aS : AS} {A : Addr → Prop} {H : Hp} : ∀ {vs : List V} {ds : List D}, RepL aS A H vs ds → vs.length = ds.length
  | _, _, .nil => rfl
  | _, _, .cons _ r => congrArg (· + 1) r.length
theorem RepL.append {aS : AS} {A : Addr → Prop} {H : Hp} : ∀ {vs ws : List V} {ds es : List D}, RepL aS A H vs ds → RepL aS A H ws es → RepL aS A H (vs ++ ws) (ds ++ es)
  | _, _, _, _, .nil, s => s
  | _, _, _, _, .cons a r, s => .cons a (r.append s)
theorem RepL.get {aS : AS} {A : Addr → Prop} {H : Hp} : ∀ {vs : List V} {ds : List D} {i : Nat} {d : D}, RepL aS A H vs ds → ds[i]? = some d → ∃ v, vs[i]? = some v ∧ Rep aS A H v d
  | _, _, _, _, .nil, e => by simp at e
  | _, _, 0, _, .cons a _, e => by simp at e; subst e; exact ⟨_, rfl, a⟩
  | _, _, i + 1, _, .cons _ r, e => by simpa using r.get (i := i) (by simpa using e)
theorem RepL.get' {aS : AS} {A : Addr → Prop} {H : Hp} : ∀ {vs : List V} {ds : List D} {i : Nat} {v : V}, RepL aS A H vs ds → vs[i]? = some v → ∃ d, ds[i]? = some d ∧ Rep aS A H v d
  | _, _, _, _, .nil, e => by simp at e
  | _, _, 0, _, .cons a _, e => by simp at e; subst e; exact ⟨_, rfl, a⟩
  | _, _, i + 1, _, .cons _ r, e => by simpa using r.get' (i := i) (by simpa using e)
theorem RepL.set {aS : AS} {A : Addr → Prop} {H : Hp} {v : V} {d : D} (x : Rep aS A H v d) : ∀ {vs : List V} {ds : List D} (i : Nat), RepL aS A H vs ds → RepL aS A H (vs.set i v) (ds.set i d)
  | _, _, _, .nil => .nil
  | _, _, 0, .cons _ r => .cons x r
  | _, _, i + 1, .cons a r => .cons a (RepL.set x i r)
theorem RepL.drop {aS : AS} {A : Addr → Prop} {H : Hp} : ∀ {vs : List V} {ds : List D} (i : Nat), RepL aS A H vs ds → RepL aS A H (vs.drop i) (ds.drop i)
  | _, _, 0, r => r
  | _, _, _ + 1, .nil => .nil
  | _, _, i + 1, .cons _ r => r.drop i
theorem RepL.take {aS : AS} {A : Addr → Prop} {H : Hp} : ∀ {vs : List V} {ds : List D} (i : Nat), RepL aS A H vs ds → RepL aS A H (vs.take i) (ds.take i)
  | _, _, 0, _ => .nil
  | _, _, _ + 1, .nil => .nil
  | _, _, i + 1, .cons a r => .cons a (r.take i)
theorem RepL.reverse {aS : AS} {A : Addr → Prop} {H : Hp} : ∀ {vs : List V} {ds : List D}, RepL aS A H vs ds → RepL aS A H vs.reverse ds.reverse
  | _, _, .nil => .nil
  | _, _, .cons a r => by rw [List.reverse_cons, List.reverse_cons]; exact r.reverse.append (.cons a .nil)
theorem RepL.eraseIdx {aS : AS} {A : Addr → Prop} {H : Hp} : ∀ {vs : List V} {ds : List D} (i : Nat), RepL aS A H vs ds → RepL aS A H (vs.eraseIdx i) (ds.eraseIdx i)
  | _, _, _, .nil => by simpa using RepL.nil
  | _, _, 0, .cons _ r => by simpa using r
  | _, _, i + 1, .cons a r => by simpa using RepL.cons a (r.eraseIdx i)
theorem RepL.dropLast {aS : AS} {A : Addr → Prop} {H : Hp} {vs : List V} {ds : List D} (r : RepL aS A H vs ds) : RepL aS A H vs.dropLast ds.dropLast := by
  rw [List.dropLast_eq_take, List.dropLast_eq_take, r.length]; exact r.take _
theorem RepL.rep {aS : AS} {A : Addr → Prop} {H : Hp} {vs : List V} {ds : List D} (r : RepL aS A H vs ds) : ∀ n : Nat, RepL aS A H (List.replicate n vs).flatten (List.replicate n ds).flatten
  | 0 => .nil
  | n + 1 => by rw [List.replicate_succ, List.replicate_succ, List.flatten_cons, List.flatten_cons]; exact r.append (r.rep n)

/-! looking at values -/
section
variable {aS : AS} {A : Addr → Prop} {H : Hp} {v : V}
theorem RepT.int {i : Int} (h : RepT aS A H v (.int i)) : v = .int i := by
  rcases h with h | ⟨a, rfl, h⟩
  · cases h; rfl
  · cases h
theorem RepT.bl {i : Bool} (h : RepT aS A H v (.bl i)) : v = .bl i := by
  rcases h with h | ⟨a, rfl, h⟩
  · cases h; rfl
  · cases h
theorem RepT.non (h : RepT aS A H v .non) : v = .non := by
  rcases h with h | ⟨a, rfl, h⟩
  · cases h; rfl
  · cases h
theorem RepT.lst {ds : List D} (h : RepT aS A H v (.lst ds)) : ∃ a xs, v = .ref a ∧ H a = some (.lst xs) ∧ RepL aS A H xs ds := by
  rcases h with h | ⟨a, rfl, h⟩
  · cases h with | lst _ h r => exact ⟨_, _, rfl, h, r⟩
  · cases h with | lst h r => exact ⟨_, _, rfl, h, r⟩
theorem RepT.tup {ds : List D} (h : RepT aS A H v (.tup ds)) : ∃ a xs, v = .ref a ∧ ¬ A a ∧ TupAt aS.fz H a xs ∧ RepL aS A H xs ds := by
  rcases h with h | ⟨a, rfl, h⟩
  · cases h with | tup hn h r => exact ⟨_, _, rfl, hn, h, r⟩
  · cases h
theorem RepT.dctK {ps : List (D × D)} (h : RepT aS A H v (.dct false ps)) : ∃ a kvs, v = .ref a ∧ Rd H a (.dK kvs) ∧ KOk kD kvs ps ∧ RepL aS A H (kvs.map (·.2)) (ps.map (·.2)) := by
  rcases h with h | ⟨a, rfl, h⟩
  · cases h with | dctK _ h e r => exact ⟨_, _, rfl, h, e, r⟩
  · cases h with | dctK h e r => exact ⟨_, _, rfl, .inl h, e, r⟩
theorem RepT.dctT {ps : List (D × D)} (h : RepT aS A H v (.dct true ps)) : aS.fz = false ∧ ∃ a kvs, v = .ref a ∧ Rd H a (.dT kvs) ∧ KOk kTD kvs ps ∧ RepL aS A H (kvs.map (·.2)) (ps.map (·.2)) := by
  rcases h with h | ⟨a, rfl, h⟩
  · cases h with | dctT z _ h e r => exact ⟨z, _, _, rfl, h, e, r⟩
  · cases h with | dctT z h e r => exact ⟨z, _, _, rfl, .inl h, e, r⟩
theorem RepTL.one {vs : List V} {d : D} (h : RepTL aS A H vs [d]) : ∃ v, vs = [v] ∧ RepT aS A H v d := by
  cases h with | cons a r => cases r; exact ⟨_, rfl, a⟩
theorem RepTL.two {vs : List V} {d e : D} (h : RepTL aS A H vs [d, e]) : ∃ v w, vs = [v, w] ∧ RepT aS A H v d ∧ RepT aS A H w e := by
  cases h with | cons a r => cases r with | cons b r => cases r; exact ⟨_, _, rfl, a, b⟩
theorem RepTL.three {vs : List V} {d e f : D} (h : RepTL aS A H vs [d, e, f]) : ∃ v w x, vs = [v, w, x] ∧ RepT aS A H v d ∧ RepT aS A H w e ∧ RepT aS A H x f := by
  cases h with | cons a r => cases r with | cons b r => cases r with | cons c r => cases r; exact ⟨_, _, _, rfl, a, b, c⟩
theorem RepL.ints : ∀ {vs : List V} {ds : List D} {ns : List Int}, RepL aS A H vs ds → D.intsOf ds = some ns → vs = ns.map V.int
  | _, _, _, .nil, e => by cases e; rfl
  | _, d :: ds, ns, .cons a r, e => by
    cases d with
    | int i =>
      simp only [D.intsOf] at e
      cases q : D.intsOf ds with
      | none => rw [q] at e; cases e
      | some ms => rw [q] at e; cases e; cases a; rw [r.ints q]; rfl
    | _ => cases e
theorem RepL.bools : ∀ {vs : List V} {ds : List D} {ns : List Bool}, RepL aS A H vs ds → D.bools ds = some ns → vs = ns.map V.bl
  | _, _, _, .nil, e => by cases e; rfl
  | _, d :: ds, ns, .cons a r, e => by
    cases d with
    | bl i =>
      simp only [D.bools] at e
      cases q : D.bools ds with
      | none => rw [q] at e; cases e
      | some ms => rw [q] at e; cases e; cases a; rw [r.bools q]; rfl
    | _ => cases e
end
end Rf
end

section
set_option linter.all false
set_option Elab.async false
set_option maxRecDepth 100000
namespace Rf
open PySem L2

/-- fixed through a def's run: the drawing source's two objects, what callers own, the heap at the entry -/
structure Gp where
  aS : AS
  aC : Addr
  A0 : Addr → Prop
  H0 : Hp

def srcO (s : Sr) (aC : Addr) : HO := .dK [(.inr "cells", .ref aC), (.inr "left", .int s.left), (.inr "mixed", .int s.mixed), (.inr "turn", .int s.turn)]
structure SrcR (g : Gp) (s : Sr) (H : Hp) : Prop where
  dic : H g.aS.a = some (srcO s g.aC)
  cel : H g.aC = some (.lst (s.cells.map V.int))
  fz : s.fz = g.aS.fz
abbrev Ow := Nat → Option Addr
def Av (g : Gp) (tmp : List Addr) (ow : Ow) (a : Addr) : Prop := g.A0 a ∨ a = g.aS.a ∨ a = g.aC ∨ a ∈ tmp ∨ ∃ i, ow i = some a
def Nw (g : Gp) (a : Addr) : Prop := g.H0 a = none ∧ ¬ g.A0 a ∧ a ≠ g.aS.a ∧ a ≠ g.aC

structure Stt (g : Gp) (tmp : List Addr) (ow : Ow) (σ : St) (H : Hp) (env : Env) (s : Sr) : Prop where
  len : env.length = σ.length
  slot : ∀ i f d, env[i]? = some (some (f, d)) → ∃ v, σ[i]? = some (some v) ∧
    ((∃ a, ow i = some a ∧ f = true ∧ v = .ref a ∧ Top g.aS (Av g tmp ow) H a d) ∨ (ow i = none ∧ (f = true → d.chg = false) ∧ Rep g.aS (Av g tmp ow) H v d))
  inj : ∀ i j a, ow i = some a → ow j = some a → i = j
  owN : ∀ i a, ow i = some a → a ∉ tmp ∧ Nw g a
  tmN : ∀ a ∈ tmp, Nw g a
  tmD : tmp.Nodup
  alive : ∀ a, Av g tmp ow a → H a ≠ none
  same : ∀ a o, g.H0 a = some o → a ≠ g.aS.a → a ≠ g.aC → H a = some o
  src : SrcR g s H

def SzOk (H : Hp) : Prop := ∀ a xs, (H a = some (.lst xs) ∨ Rd H a (.tup xs)) → xs.length ≤ szLine

def Val (b : Bool) (g : Gp) (tmp tmp' : List Addr) (ow' : Ow) (H' : Hp) (v : V) (d : D) : Prop :=
  (tmp' = tmp ∧ Rep g.aS (Av g tmp' ow') H' v d ∧ (b = true → d.chg = false)) ∨ (b = true ∧ ∃ a, v = .ref a ∧ tmp' = a :: tmp ∧ Top g.aS (Av g tmp' ow') H' a d)

/-- what the evaluator's answer says of the run -/
def T (cf : Cf) (e : Ex) : TE := fun σ H Q => ∃ g tmp ow env s d env' s', Stt g tmp ow σ H env s ∧ ev cf e env s = some (d, env', s') ∧
  ∀ v H' tmp' ow', SzOk H' → Stt g tmp' ow' σ H' env' s' → Frm (Av g tmp ow) (Av g tmp' ow') tmp H H' → Val (fr e) g tmp tmp' ow' H' v d → Q v H'
/-- .. of an operand -/
def TO (cf : Cf) : Ex → TE
  | .bor i => tVar i
  | e => T cf e
def TOs (cf : Cf) : List Ex → TA
  | [] => tNil
  | e :: es => tCons (TO cf e) (TOs cf es)

/-! the invariant under steps -/
section
variable {g : Gp} {tmp : List Addr} {ow : Ow} {σ : St} {H : Hp} {env : Env} {s : Sr}

theorem Stt.notSrc (S : Stt g tmp ow σ H env s) {p : Addr} (h : H p = none) : p ≠ g.aS.a ∧ p ≠ g.aC := by
  constructor
  · intro e; rw [e, S.src.dic] at h; cases h
  · intro e; rw [e, S.src.cel] at h; cases h
theorem Stt.notAv (S : Stt g tmp ow σ H env s) {p : Addr} (h : H p = none) : ¬ Av g tmp ow p := fun z => S.alive p z h
theorem Stt.new (S : Stt g tmp ow σ H env s) {p : Addr} (h : H p = none) : Nw g p := by
  obtain ⟨h1, h2⟩ := S.notSrc h
  refine ⟨?_, fun z => S.notAv h (.inl z), h1, h2⟩
  cases q : g.H0 p with
  | none => rfl
  | some o => rw [S.same p o q h1 h2] at h; cases h
theorem upd_keep {H : Hp} {p : Addr} {o : HO} (h : H p = none) {a : Addr} {u : HO} (q : H a = some u) : upd H p o a = some u := by
  rw [upd_ne (ne_of_none q h)]; exact q
/-- a new object that nobody owns -/
theorem frm_alloc {A : Addr → Prop} {tmp : List Addr} {H : Hp} {p : Addr} {o : HO} (ht : ∀ a ∈ tmp, H a ≠ none) (h : H p = none) : Frm A A tmp H (upd H p o) :=
  ⟨fun _ _ _ q => upd_keep h q, fun _ q => .inl q, fun a ha => upd_ne (fun e => ht a ha (by rw [e]; exact h))⟩
theorem Stt.tmpAlive (S : Stt g tmp ow σ H env s) : ∀ a ∈ tmp, H a ≠ none := fun a ha => S.alive a (.inr (.inr (.inr (.inl ha))))
theorem Stt.alloc (S : Stt g tmp ow σ H env s) {p : Addr} {o : HO} (h : H p = none) : Stt g tmp ow σ (upd H p o) env s where
  len := S.len
  slot := fun i f d e => by
    obtain ⟨v, e1, z⟩ := S.slot i f d e
    have F : Frm (Av g tmp ow) (Av g tmp ow) tmp H (upd H p o) := frm_alloc S.tmpAlive h
    refine ⟨v, e1, ?_⟩
    rcases z with ⟨a, h1, h2, h3, t⟩ | ⟨h1, h2, r⟩
    · exact .inl ⟨a, h1, h2, h3, t.frm F (upd_ne fun e => t.some (by rw [e]; exact h))⟩
    · exact .inr ⟨h1, h2, r.frm F⟩
  inj := S.inj
  owN := S.owN
  tmN := S.tmN
  tmD := S.tmD
  alive := fun a z q => by
    have n := S.alive a z
    cases k : H a with
    | none => exact n k
    | some u => rw [upd_keep h k] at q; cases q
  same := fun a u q h1 h2 => upd_keep h (S.same a u q h1 h2)
  src := ⟨upd_keep h S.src.dic, upd_keep h S.src.cel, S.src.fz⟩
/-- a new object, held as a temporary -/
theorem Stt.hold (S : Stt g tmp ow σ H env s) {p : Addr} {o : HO} (h : H p = none) :
    Stt g (p :: tmp) ow σ (upd H p o) env s ∧ Frm (Av g tmp ow) (Av g (p :: tmp) ow) tmp H (upd H p o) := by
  have F : Frm (Av g tmp ow) (Av g (p :: tmp) ow) tmp H (upd H p o) := by
    refine ⟨fun _ _ _ q => upd_keep h q, fun a z => ?_, fun a ha => upd_ne (fun e => S.tmpAlive a ha (by rw [e]; exact h))⟩
    rcases z with z | z | z | z | z
    · exact .inl (.inl z)
    · exact .inl (.inr (.inl z))
    · exact .inl (.inr (.inr (.inl z)))
    · rcases List.mem_cons.mp z with rfl | z
      · exact .inr h
      · exact .inl (.inr (.inr (.inr (.inl z))))
    · exact .inl (.inr (.inr (.inr (.inr z))))
  refine ⟨⟨S.len, fun i f d e => ?_, S.inj, fun i a e => ?_, fun a ha => ?_, ?_, fun a z q => ?_, fun a u q h1 h2 => upd_keep h (S.same a u q h1 h2), ⟨upd_keep h S.src.dic, upd_keep h S.src.cel, S.src.fz⟩⟩, F⟩
  · obtain ⟨v, e1, z⟩ := S.slot i f d e
    refine ⟨v, e1, ?_⟩
    rcases z with ⟨a, h1, h2, h3, t⟩ | ⟨h1, h2, r⟩
    · exact .inl ⟨a, h1, h2, h3, t.frm F (upd_ne fun e => t.some (by rw [e]; exact h))⟩
    · exact .inr ⟨h1, h2, r.frm F⟩
  · obtain ⟨h1, h2⟩ := S.owN i a e
    refine ⟨fun z => ?_, h2⟩
    rcases List.mem_cons.mp z with rfl | z
    · exact S.notAv h (.inr (.inr (.inr (.inr ⟨i, e⟩))))
    · exact h1 z
  · rcases List.mem_cons.mp ha with rfl | ha
    · exact S.new h
    · exact S.tmN a ha
  · exact List.nodup_cons.mpr ⟨fun z => S.notAv h (.inr (.inr (.inr (.inl z)))), S.tmD⟩
  · rcases F.grow a z with z | z
    · have n := S.alive a z
      cases k : H a with
      | none => exact n k
      | some u => rw [upd_keep h k] at q; cases q
    · by_cases e : a = p
      · rw [e, upd_same] at q; cases q
      · rcases z' : H a with _ | u
        · have : a ∈ p :: tmp ∨ ¬ a ∈ p :: tmp := Classical.em _
          rcases this with m | m
          · rcases List.mem_cons.mp m with m | m
            · exact e m
            · exact S.tmpAlive a m z'
          · rcases ‹Av g (p :: tmp) ow a› with y | y | y | y | y
            · exact S.notAv z' (.inl y)
            · exact S.notAv z' (.inr (.inl y))
            · exact S.notAv z' (.inr (.inr (.inl y)))
            · exact m y
            · exact S.notAv z' (.inr (.inr (.inr (.inr y))))
        · rw [upd_keep h z'] at q; cases q
/-- smaller what is owned -/
theorem frm_shrink {A A' : Addr → Prop} {tmp : List Addr} {H : Hp} (h : ∀ a, A' a → A a) : Frm A A' tmp H H := ⟨fun _ _ _ q => q, fun a z => .inl (h a z), fun _ _ => rfl⟩
/-- a temporary is let go -/
theorem Stt.drop {p : Addr} (S : Stt g (p :: tmp) ow σ H env s) : Stt g tmp ow σ H env s ∧ ¬ Av g tmp ow p := by
  have sub : ∀ a, Av g tmp ow a → Av g (p :: tmp) ow a := fun a z => by
    rcases z with z | z | z | z | z
    · exact .inl z
    · exact .inr (.inl z)
    · exact .inr (.inr (.inl z))
    · exact .inr (.inr (.inr (.inl (List.mem_cons_of_mem _ z))))
    · exact .inr (.inr (.inr (.inr z)))
  have F : Frm (Av g (p :: tmp) ow) (Av g tmp ow) tmp H H := frm_shrink sub
  refine ⟨⟨S.len, fun i f d e => ?_, S.inj, fun i a e => ?_, fun a ha => S.tmN a (List.mem_cons_of_mem _ ha), (List.nodup_cons.mp S.tmD).2, fun a z => S.alive a (sub a z), S.same, S.src⟩, fun z => ?_⟩
  · obtain ⟨v, e1, z⟩ := S.slot i f d e
    refine ⟨v, e1, ?_⟩
    rcases z with ⟨a, h1, h2, h3, t⟩ | ⟨h1, h2, r⟩
    · exact .inl ⟨a, h1, h2, h3, t.frm F rfl⟩
    · exact .inr ⟨h1, h2, r.frm F⟩
  · obtain ⟨h1, h2⟩ := S.owN i a e
    exact ⟨fun z => h1 (List.mem_cons_of_mem _ z), h2⟩
  · obtain ⟨_, n1, n2, n3⟩ := S.tmN p List.mem_cons_self
    rcases z with z | z | z | z | ⟨i, z⟩
    · exact n1 z
    · exact n2 z
    · exact n3 z
    · exact (List.nodup_cons.mp S.tmD).1 z
    · exact (S.owN i p z).1 List.mem_cons_self
theorem tmp_sub_drop {p : Addr} : ∀ a, Av g tmp ow a → Av g (p :: tmp) ow a := fun a z => by
  rcases z with z | z | z | z | z
  · exact .inl z
  · exact .inr (.inl z)
  · exact .inr (.inr (.inl z))
  · exact .inr (.inr (.inr (.inl (List.mem_cons_of_mem _ z))))
  · exact .inr (.inr (.inr (.inr z)))
/-- any answer, as one that is not new -/
theorem Val.weak {b : Bool} {tmp' : List Addr} {v : V} {d : D} {A : Addr → Prop} {H1 : Hp} (x : Val b g tmp tmp' ow H v d) (S : Stt g tmp' ow σ H env s) (F : Frm A (Av g tmp' ow) tmp H1 H) :
    Stt g tmp ow σ H env s ∧ Frm A (Av g tmp ow) tmp H1 H ∧ Rep g.aS (Av g tmp ow) H v d := by
  rcases x with ⟨rfl, r, _⟩ | ⟨_, a, rfl, rfl, t⟩
  · exact ⟨S, F, r⟩
  · obtain ⟨S', n⟩ := S.drop
    have G : Frm (Av g (a :: tmp) ow) (Av g tmp ow) tmp H H := frm_shrink tmp_sub_drop
    exact ⟨S', F.trans G (fun _ h => h), (t.frm G rfl).rep n⟩
end

/-- the way most rules take an expression's part -/
theorem T.weak {cf : Cf} {e : Ex} {g : Gp} {tmp : List Addr} {ow : Ow} {σ : St} {H : Hp} {env env' : Env} {s s' : Sr} {d : D} {Q : VK} (S : Stt g tmp ow σ H env s) (he : ev cf e env s = some (d, env', s'))
    (k : ∀ v H' ow', SzOk H' → Stt g tmp ow' σ H' env' s' → Frm (Av g tmp ow) (Av g tmp ow') tmp H H' → Rep g.aS (Av g tmp ow') H' v d → Q v H') : T cf e σ H Q := by
  refine ⟨g, tmp, ow, env, s, d, env', s', S, he, fun v H' tmp' ow' z S' F x => ?_⟩
  obtain ⟨S2, F2, r⟩ := x.weak S' F
  exact k v H' ow' z S2 F2 r
theorem T.run {cf : Cf} {e : Ex} {g : Gp} {tmp : List Addr} {ow : Ow} {σ : St} {H : Hp} {env env' : Env} {s s' : Sr} {d : D} {Q : VK} (S : Stt g tmp ow σ H env s) (he : ev cf e env s = some (d, env', s'))
    (k : ∀ v H' tmp' ow', SzOk H' → Stt g tmp' ow' σ H' env' s' → Frm (Av g tmp ow) (Av g tmp' ow') tmp H H' → Val (fr e) g tmp tmp' ow' H' v d → Q v H') : T cf e σ H Q := ⟨g, tmp, ow, env, s, d, env', s', S, he, k⟩

theorem slot_rd {env : Env} {i : Nat} {d : D} (h : rd env i = some d) : ∃ f, env[i]? = some (some (f, d)) := by
  unfold rd at h
  split at h
  · cases h; exact ⟨_, by assumption⟩
  · cases h
theorem Stt.rd {g : Gp} {tmp : List Addr} {ow : Ow} {σ : St} {H : Hp} {env : Env} {s : Sr} (S : Stt g tmp ow σ H env s) {i : Nat} {d : D} (h : rd env i = some d) : ∃ v, σ[i]? = some (some v) ∧ RepT g.aS (Av g tmp ow) H v d := by
  obtain ⟨f, h⟩ := slot_rd h
  obtain ⟨v, e, z⟩ := S.slot i f d h
  refine ⟨v, e, ?_⟩
  rcases z with ⟨a, _, _, rfl, t⟩ | ⟨_, _, r⟩
  · exact .inr ⟨a, rfl, t⟩
  · exact .inl r
theorem RepTL.ofRep {aS : AS} {A : Addr → Prop} {H : Hp} : ∀ {vs : List V} {ds : List D}, RepL aS A H vs ds → RepTL aS A H vs ds
  | _, _, .nil => .nil
  | _, _, .cons a r => .cons (.inl a) (RepTL.ofRep r)

/-- operands -/
theorem ops_run {cf : Cf} {g : Gp} {tmp : List Addr} {σ : St} : ∀ {es : List Ex} {ow : Ow} {H : Hp} {env env' : Env} {s s' : Sr} {ds : List D} {K : List V → Hp → Prop}, Stt g tmp ow σ H env s → evOs cf es env s = some (ds, env', s') → SzOk H →
    (∀ vs H' ow', SzOk H' → Stt g tmp ow' σ H' env' s' → Frm (Av g tmp ow) (Av g tmp ow') tmp H H' → RepTL g.aS (Av g tmp ow') H' vs ds → K vs H') → TOs cf es σ H K
  | [], ow, H, env, env', s, s', ds, K, S, he, z, k => by
    simp only [evOs, Option.some.injEq, Prod.mk.injEq] at he
    obtain ⟨rfl, rfl, rfl⟩ := he
    exact k [] H ow z S .refl .nil
  | e :: es, ow, H, env, env', s, s', ds, K, S, he, z, k => by
    show TO cf e σ H fun x H1 => TOs cf es σ H1 fun xs H2 => K (x :: xs) H2
    by_cases hb : ∃ i, e = .bor i
    · obtain ⟨i, rfl⟩ := hb
      simp only [evOs] at he
      cases h0 : rd env i with
      | none => rw [h0] at he; cases he
      | some d0 =>
        rw [h0] at he
        dsimp only at he
        obtain ⟨v, ev, _⟩ := S.rd h0
        cases h1 : evOs cf es env s with
        | none => rw [h1] at he; cases he
        | some q =>
          obtain ⟨ds1, env1, s1⟩ := q
          rw [h1] at he
          dsimp only at he
          cases h2 : rd env1 i with
          | none => rw [h2] at he; cases he
          | some d =>
            rw [h2] at he
            simp only [Option.some.injEq, Prod.mk.injEq] at he
            obtain ⟨rfl, rfl, rfl⟩ := he
            refine ⟨v, ev, ops_run S h1 z fun vs H' ow' z' S' F r => ?_⟩
            obtain ⟨v', ev', r'⟩ := S'.rd h2
            rw [ev] at ev'
            cases ev'
            exact k _ H' ow' z' S' F (.cons r' r)
    · have he' : (match ev cf e env s with
          | some (d, env, s) => match evOs cf es env s with
            | some (ds, env, s) => some (d :: ds, env, s)
            | none => none
          | none => none) = some (ds, env', s') := by
        cases e <;> first | exact he | exact absurd ⟨_, rfl⟩ hb
      have ht : TO cf e = T cf e := by cases e <;> first | rfl | exact absurd ⟨_, rfl⟩ hb
      rw [ht]
      cases h1 : ev cf e env s with
      | none => rw [h1] at he'; cases he'
      | some q =>
        obtain ⟨d, env1, s1⟩ := q
        rw [h1] at he'
        dsimp only at he'
        cases h2 : evOs cf es env1 s1 with
        | none => rw [h2] at he'; cases he'
        | some q =>
          obtain ⟨ds1, env2, s2⟩ := q
          rw [h2] at he'
          simp only [Option.some.injEq, Prod.mk.injEq] at he'
          obtain ⟨rfl, rfl, rfl⟩ := he'
          refine T.weak S h1 fun v H1 ow1 z1 S1 F1 r1 => ops_run S1 h2 z1 fun vs H' ow' z' S' F r => ?_
          exact k _ H' ow' z' S' (F1.trans F fun _ h => h) (.cons (.inl (r1.frm F)) r)
end Rf
end

section
set_option linter.all false
set_option Elab.async false
set_option maxRecDepth 100000
namespace Rf
open PySem L2

theorem szOk_of {X : Cx} {pins : List (Addr × Obj)} {σ : St} {H : Hp} {s : Shared} (I : Inv X pins σ H s) : SzOk H := by
  intro a xs h
  rcases h with h | h
  · exact (I.hok a _ h).1
  · rcases h with h | ⟨o, h⟩
    · exact (I.hok a _ h).1
    · exact (I.hok a _ h).2.1
section
variable {X : Cx} {cf : Cf}
/-- a rule of the layer, read by the evaluator -/
theorem PE.mk' {e : Expr} {t t' : TE} (h : PE X e t) (k : ∀ σ H Q, SzOk H → t' σ H Q → t σ H (fun v H1 => SzOk H1 → Q v H1)) : PE X e t' :=
  ⟨fun pins s σ H Q I hw => thn (h.run pins s σ H _ I (k σ H Q (szOk_of I) hw)) fun u s' ⟨v, H', I', r, q⟩ => ⟨v, H', I', r, q (szOk_of I')⟩⟩
theorem PE.alt {e : Expr} {t t' : TE} (h : PE X e t) (h' : PE X e t') : PE X e (fun σ H Q => t σ H Q ∨ t' σ H Q) :=
  ⟨fun pins s σ H Q I hw => hw.elim (h.run pins s σ H Q I) (h'.run pins s σ H Q I)⟩
theorem OpR.alt {f : Value → Value → Sem Value} {r r' : R2} (h : OpR X f r) (h' : OpR X f r') : OpR X f (fun x y H Q => r x y H Q ∨ r' x y H Q) :=
  fun pins s σ H x y v u Q I rx ry hw => hw.elim (h pins s σ H x y v u Q I rx ry) (h' pins s σ H x y v u Q I rx ry)
theorem CallR.alt {f : Value} {r r' : List V → Hp → VK → Prop} (h : CallR X f r) (h' : CallR X f r') : CallR X f (fun x H Q => r x H Q ∨ r' x H Q) :=
  fun pins s σ H xs us Q I rx hw => hw.elim (h pins s σ H xs us Q I rx) (h' pins s σ H xs us Q I rx)
theorem SlR.alt {r r' : V → Option Int → Option Int → Hp → VK → Prop} (h : L2.SlR X r) (h' : L2.SlR X r') : L2.SlR X (fun x a b H Q => r x a b H Q ∨ r' x a b H Q) :=
  fun pins s σ H x v vl vu lo hi sl Q I rx hs pl pu hw => hw.elim (h pins s σ H x v vl vu lo hi sl Q I rx hs pl pu) (h' pins s σ H x v vl vu lo hi sl Q I rx hs pl pu)
end

/-- what is left to do with an answer -/
structure Res (fr : Bool) (g : Gp) (tmp : List Addr) (ow : Ow) (σ : St) (H1 : Hp) (env : Env) (s : Sr) (d : D) (Q : VK) : Prop where
  st : Stt g tmp ow σ H1 env s
  k : ∀ v H2 tmp2, SzOk H2 → Stt g tmp2 ow σ H2 env s → Frm (Av g tmp ow) (Av g tmp2 ow) tmp H1 H2 → Val fr g tmp tmp2 ow H2 v d → Q v H2

section
variable {b : Bool} {g : Gp} {tmp : List Addr} {ow : Ow} {σ : St} {H : Hp} {env : Env} {s : Sr} {d : D} {Q : VK}
/-- a value that stands already -/
theorem Res.val (R : Res b g tmp ow σ H env s d Q) {v : V} (r : Rep g.aS (Av g tmp ow) H v d) (h : b = true → d.chg = false) (z : SzOk H) : Q v H :=
  R.k v H tmp z R.st .refl (.inl ⟨rfl, r, h⟩)
theorem Res.int {i : Int} (R : Res b g tmp ow σ H env s (.int i) Q) (z : SzOk H) : Q (.int i) H := R.val (.int i) (fun _ => rfl) z
theorem Res.bl {i : Bool} (R : Res b g tmp ow σ H env s (.bl i) Q) (z : SzOk H) : Q (.bl i) H := R.val (.bl i) (fun _ => rfl) z
/-- a new tuple -/
theorem Res.tup {ds : List D} {xs : List V} (R : Res b g tmp ow σ H env s (.tup ds) Q) (r : RepL g.aS (Av g tmp ow) H xs ds) {p : Addr} {o : Obj} (hd : o.dict = none) (h : H p = none) (z : SzOk (upd H p (tupO g.aS.fz o xs))) : Q (.ref p) (upd H p (tupO g.aS.fz o xs)) := by
  have F : Frm (Av g tmp ow) (Av g tmp ow) tmp H (upd H p (tupO g.aS.fz o xs)) := frm_alloc R.st.tmpAlive h
  exact R.k _ _ tmp z (R.st.alloc h) F (.inl ⟨rfl, .tup (R.st.notAv h) (.new hd) (r.frm F), fun _ => rfl⟩)
/-- a new list -/
theorem Res.lst {ds : List D} {xs : List V} (R : Res true g tmp ow σ H env s (.lst ds) Q) (r : RepL g.aS (Av g tmp ow) H xs ds) {p : Addr} (h : H p = none) (z : SzOk (upd H p (.lst xs))) : Q (.ref p) (upd H p (.lst xs)) := by
  obtain ⟨S, F⟩ := R.st.hold (o := .lst xs) h
  exact R.k _ _ (p :: tmp) z S F (.inr ⟨rfl, p, rfl, rfl, .lst upd_same (r.frm F)⟩)
/-- a new dict -/
theorem Res.dctK {ps : List (D × D)} {kvs : List (Key × V)} (R : Res true g tmp ow σ H env s (.dct false ps) Q) (e : KOk kD kvs ps) (r : RepL g.aS (Av g tmp ow) H (kvs.map (·.2)) (ps.map (·.2))) {p : Addr} (h : H p = none) (z : SzOk (upd H p (.dK kvs))) : Q (.ref p) (upd H p (.dK kvs)) := by
  obtain ⟨S, F⟩ := R.st.hold (o := .dK kvs) h
  exact R.k _ _ (p :: tmp) z S F (.inr ⟨rfl, p, rfl, rfl, .dctK upd_same e (r.frm F)⟩)
theorem Res.dctT (hfz : g.aS.fz = false) {ps : List (D × D)} {kvs : List (List Key × V)} (R : Res true g tmp ow σ H env s (.dct true ps) Q) (e : KOk kTD kvs ps) (r : RepL g.aS (Av g tmp ow) H (kvs.map (·.2)) (ps.map (·.2))) {p : Addr} (h : H p = none) (z : SzOk (upd H p (.dT kvs))) : Q (.ref p) (upd H p (.dT kvs)) := by
  obtain ⟨S, F⟩ := R.st.hold (o := .dT kvs) h
  exact R.k _ _ (p :: tmp) z S F (.inr ⟨rfl, p, rfl, rfl, .dctT hfz upd_same e (r.frm F)⟩)
end

section
variable {X : Cx} {cf : Cf}
/-! names, constants -/
theorem r_var {i : Nat} {e : Expr} (h : PE X e (tVar i)) : PE X e (T cf (.var i)) := by
  refine PE.mk' h fun σ H Q z ⟨g, tmp, ow, env, s, d, env', s', S, he, k⟩ => ?_
  simp only [ev] at he
  cases h0 : rdV env i with
  | none => rw [h0] at he; cases he
  | some d0 =>
    rw [h0] at he
    simp only [Option.some.injEq, Prod.mk.injEq] at he
    obtain ⟨rfl, rfl, rfl⟩ := he
    have h1 : env[i]? = some (some (false, d0)) := by
      unfold rdV at h0
      split at h0
      · rename_i e; cases h0; exact e
      · cases h0
    obtain ⟨v, e1, q⟩ := S.slot i _ _ h1
    rcases q with ⟨a, _, h2, _⟩ | ⟨_, _, r⟩
    · cases h2
    · exact ⟨v, e1, fun z' => k v H tmp ow z' S .refl (.inl ⟨rfl, r, fun h => by cases h⟩)⟩
/-- an own slot is given away -/
theorem Stt.give {g : Gp} {tmp : List Addr} {ow : Ow} {σ : St} {H : Hp} {env : Env} {s : Sr} (S : Stt g tmp ow σ H env s) (i : Nat) :
    Stt g tmp (fun j => if j = i then none else ow j) σ H (env.set i none) s ∧ (∀ a, Av g tmp (fun j => if j = i then none else ow j) a → Av g tmp ow a) := by
  have sub : ∀ a, Av g tmp (fun j => if j = i then none else ow j) a → Av g tmp ow a := fun a z => by
    rcases z with z | z | z | z | ⟨j, z⟩
    · exact .inl z
    · exact .inr (.inl z)
    · exact .inr (.inr (.inl z))
    · exact .inr (.inr (.inr (.inl z)))
    · by_cases e : j = i
      · simp [e] at z
      · simp [e] at z; exact .inr (.inr (.inr (.inr ⟨j, z⟩)))
  have F : Frm (Av g tmp ow) (Av g tmp (fun j => if j = i then none else ow j)) tmp H H := frm_shrink sub
  refine ⟨⟨by rw [List.length_set]; exact S.len, fun j f d e => ?_, fun j k a h1 h2 => ?_, fun j a e => ?_, S.tmN, S.tmD, fun a z => S.alive a (sub a z), S.same, S.src⟩, sub⟩
  · have hj : j ≠ i := by
      intro q
      subst q
      by_cases hl : j < env.length
      · rw [List.getElem?_set_self hl] at e; cases e
      · rw [List.getElem?_eq_none (by simpa using hl)] at e; cases e
    rw [List.getElem?_set_ne (Ne.symm hj)] at e
    obtain ⟨v, e1, q⟩ := S.slot j f d e
    refine ⟨v, e1, ?_⟩
    rcases q with ⟨a, h1, h2, h3, t⟩ | ⟨h1, h2, r⟩
    · exact .inl ⟨a, by simp [hj, h1], h2, h3, t.frm F rfl⟩
    · exact .inr ⟨by simp [hj, h1], h2, r.frm F⟩
  · by_cases e1 : j = i
    · simp [e1] at h1
    · by_cases e2 : k = i
      · simp [e2] at h2
      · simp [e1] at h1; simp [e2] at h2; exact S.inj j k a h1 h2
  · by_cases e1 : j = i
    · simp [e1] at e
    · simp [e1] at e; exact S.owN j a e
theorem r_mv {i : Nat} {e : Expr} (h : PE X e (tVar i)) : PE X e (T cf (.mv i)) := by
  refine PE.mk' h fun σ H Q z ⟨g, tmp, ow, env, s, d, env', s', S, he, k⟩ => ?_
  have h1 : ∃ d0, env[i]? = some (some (true, d0)) ∧ some (d0, env.set i none, s) = some (d, env', s') := by
    simp only [ev] at he
    split at he
    · exact ⟨_, by assumption, he⟩
    · cases he
  obtain ⟨d0, h1, he⟩ := h1
  · simp only [Option.some.injEq, Prod.mk.injEq] at he
    obtain ⟨rfl, rfl, rfl⟩ := he
    obtain ⟨v, e1, q⟩ := S.slot i _ _ h1
    refine ⟨v, e1, fun z' => ?_⟩
    obtain ⟨S', sub⟩ := S.give i
    have F : Frm (Av g tmp ow) (Av g tmp (fun j => if j = i then none else ow j)) tmp H H := frm_shrink sub
    rcases q with ⟨a, h2, h3, rfl, t⟩ | ⟨h2, h3, r⟩
    · -- the object becomes a temporary
      have na : ¬ Av g tmp (fun j => if j = i then none else ow j) a := by
        obtain ⟨n1, _, n2, n3, n4⟩ := S.owN i a h2
        rintro (y | y | y | y | ⟨j, y⟩)
        · exact n2 y
        · exact n3 y
        · exact n4 y
        · exact n1 y
        · by_cases e : j = i
          · simp [e] at y
          · simp [e] at y; exact e (S.inj j i a y h2)
      have sub2 : ∀ x, Av g (a :: tmp) (fun j => if j = i then none else ow j) x → Av g tmp ow x := fun x y => by
        rcases y with y | y | y | y | y
        · exact .inl y
        · exact .inr (.inl y)
        · exact .inr (.inr (.inl y))
        · rcases List.mem_cons.mp y with rfl | y
          · exact .inr (.inr (.inr (.inr ⟨i, h2⟩)))
          · exact .inr (.inr (.inr (.inl y)))
        · exact sub x (.inr (.inr (.inr (.inr y))))
      have F2 : Frm (Av g tmp ow) (Av g (a :: tmp) (fun j => if j = i then none else ow j)) tmp H H := frm_shrink sub2
      have S2 : Stt g (a :: tmp) (fun j => if j = i then none else ow j) σ H (env.set i none) s := by
        refine ⟨S'.len, fun j f d e => ?_, S'.inj, fun j b e => ⟨fun m => ?_, (S'.owN j b e).2⟩, fun b m => ?_, List.nodup_cons.mpr ⟨(S.owN i a h2).1, S.tmD⟩, fun b y => S.alive b (sub2 b y), S.same, S.src⟩
        · obtain ⟨v, q1, q2⟩ := S.slot j f d (by
            by_cases hj : j = i
            · subst hj
              by_cases hl : j < env.length
              · rw [List.getElem?_set_self hl] at e; cases e
              · rw [List.getElem?_eq_none (by simpa using hl)] at e; cases e
            · rwa [List.getElem?_set_ne (Ne.symm hj)] at e)
          have hj : j ≠ i := by
            intro q
            subst q
            by_cases hl : j < env.length
            · rw [List.getElem?_set_self hl] at e; cases e
            · rw [List.getElem?_eq_none (by simpa using hl)] at e; cases e
          refine ⟨v, q1, ?_⟩
          rcases q2 with ⟨b, w1, w2, w3, t'⟩ | ⟨w1, w2, r⟩
          · exact .inl ⟨b, by simp [hj, w1], w2, w3, t'.frm F2 rfl⟩
          · exact .inr ⟨by simp [hj, w1], w2, r.frm F2⟩
        · rcases List.mem_cons.mp m with rfl | m
          · exact na (.inr (.inr (.inr (.inr ⟨j, e⟩))))
          · exact (S'.owN j b e).1 m
        · rcases List.mem_cons.mp m with rfl | m
          · exact (S.owN i _ h2).2
          · exact S.tmN b m
      exact k _ H (a :: tmp) _ z' S2 F2 (.inr ⟨rfl, a, rfl, rfl, t.frm F2 rfl⟩)
    · refine k _ H tmp _ z' S' F (.inl ⟨rfl, r.frm F, fun _ => h3 rfl⟩)
theorem r_const {e : Expr} {v : V} {d : D} {x : Ex} (h : PE X e (tC v)) (hx : ∀ env s, ev cf x env s = some (d, env, s)) (hv : ∀ aS A H, Rep aS A H v d) (hf : d.chg = false) : PE X e (T cf x) := by
  refine PE.mk' h fun σ H Q z ⟨g, tmp, ow, env, s, d', env', s', S, he, k⟩ => ?_
  rw [hx] at he
  simp only [Option.some.injEq, Prod.mk.injEq] at he
  obtain ⟨rfl, rfl, rfl⟩ := he
  exact fun z' => k v H tmp ow z' S .refl (.inl ⟨rfl, hv _ _ _, fun _ => hf⟩)
end
end Rf
end

section
set_option linter.all false
set_option Elab.async false
set_option maxRecDepth 100000
namespace Rf
open PySem L2

theorem bi_split' {cf : Cf} {b : Bi} {es : List Ex} {env env' : Env} {s s' : Sr} {d : D} (he : ev cf (.bi b es) env s = some (d, env', s')) : ∃ ds, evOs cf es env s = some (ds, env', s') ∧ biD b ds = some d ∧ badB b ds s.fz = false := by
  simp only [ev] at he
  cases h1 : evOs cf es env s with
  | none => rw [h1] at he; cases he
  | some q =>
    obtain ⟨ds, env1, s1⟩ := q
    rw [h1] at he
    dsimp only at he
    split at he
    · cases he
    · rename_i hb
      cases h2 : biD b ds with
      | none => rw [h2] at he; cases he
      | some d1 =>
        rw [h2] at he
        simp only [Option.some.injEq, Prod.mk.injEq] at he
        obtain ⟨rfl, rfl, rfl⟩ := he
        exact ⟨ds, rfl, h2, by simpa using hb⟩
theorem bi_split {cf : Cf} {b : Bi} {es : List Ex} {env env' : Env} {s s' : Sr} {d : D} (he : ev cf (.bi b es) env s = some (d, env', s')) : ∃ ds, evOs cf es env s = some (ds, env', s') ∧ biD b ds = some d := by
  obtain ⟨ds, h1, h2, _⟩ := bi_split' he
  exact ⟨ds, h1, h2⟩
theorem bi_run {cf : Cf} {b : Bi} {es : List Ex} {σ : St} {H : Hp} {Q : VK} (h : T cf (.bi b es) σ H Q) (z : SzOk H) {r : List V → Hp → VK → Prop}
    (k : ∀ g tmp ow env s ds d vs H1, SzOk H1 → RepTL g.aS (Av g tmp ow) H1 vs ds → biD b ds = some d → Res (fr (.bi b es)) g tmp ow σ H1 env s d Q → r vs H1 (fun v H2 => SzOk H2 → Q v H2)) :
    TOs cf es σ H (fun vs H1 => r vs H1 (fun v H2 => SzOk H2 → Q v H2)) := by
  obtain ⟨g, tmp, ow, env, s, d, env', s', S, he, kk⟩ := h
  obtain ⟨ds, h1, h2⟩ := bi_split he
  refine ops_run S h1 z fun vs H1 ow1 z1 S1 F1 rs => k g tmp ow1 env' s' ds d vs H1 z1 rs h2 ⟨S1, fun v H2 tmp2 z2 S2 F2 x => ?_⟩
  exact kk v H2 tmp2 ow1 z2 S2 (F1.trans F2 fun _ h => h) x
/-- .. where the operands are known ahead -/
theorem T.bi_pre {cf : Cf} {b : Bi} {es : List Ex} {σ : St} {H : Hp} {Q : VK} (h : T cf (.bi b es) σ H Q) : ∃ ds d env s env' s', evOs cf es env s = some (ds, env', s') ∧ biD b ds = some d := by
  obtain ⟨g, tmp, ow, env, s, d, env', s', S, he, kk⟩ := h
  obtain ⟨ds, h1, h2⟩ := bi_split he
  exact ⟨ds, d, env, s, env', s', h1, h2⟩

/-- the operands' data are known ahead -/
theorem bi_open {cf : Cf} {b : Bi} {es : List Ex} {σ : St} {H : Hp} {Q : VK} (h : T cf (.bi b es) σ H Q) (z : SzOk H) : ∃ ds d, biD b ds = some d ∧ ∀ r : List V → Hp → VK → Prop,
    (∀ g tmp ow env s vs H1, SzOk H1 → RepTL g.aS (Av g tmp ow) H1 vs ds → Res (fr (.bi b es)) g tmp ow σ H1 env s d Q → r vs H1 (fun v H2 => SzOk H2 → Q v H2)) →
    TOs cf es σ H (fun vs H1 => r vs H1 (fun v H2 => SzOk H2 → Q v H2)) := by
  obtain ⟨g, tmp, ow, env, s, d, env', s', S, he, kk⟩ := h
  obtain ⟨ds, h1, h2⟩ := bi_split he
  refine ⟨ds, d, h2, fun r k => ops_run S h1 z fun vs H1 ow1 z1 S1 F1 rs => k g tmp ow1 env' s' vs H1 z1 rs ⟨S1, fun v H2 tmp2 z2 S2 F2 x => ?_⟩⟩
  exact kk v H2 tmp2 ow1 z2 S2 (F1.trans F2 fun _ h => h) x

def l2 (r : R2) : List V → Hp → VK → Prop := fun vs H Q => r (vs.getD 0 .non) (vs.getD 1 .non) H Q
def l1 (r : V → Hp → VK → Prop) : List V → Hp → VK → Prop := fun vs H Q => r (vs.getD 0 .non) H Q

section
variable {X : Cx} {cf : Cf} {a b : Expr} {ea eb : Ex} {pos : Pos}
/-- what a two-place rule must do -/
def OpSound (o : Bi) (r : R2) : Prop := ∀ {f : Bool} {g : Gp} {tmp : List Addr} {ow : Ow} {σ : St} {env : Env} {s : Sr} {ds : List D} {d : D} {vs : List V} {H : Hp} {Q : VK}, (f = fr (.bi o [])) → SzOk H →
  RepTL g.aS (Av g tmp ow) H vs ds → biD o ds = some d → Res f g tmp ow σ H env s d Q → l2 r vs H (fun v H2 => SzOk H2 → Q v H2)
theorem fr_bi (o : Bi) (es : List Ex) : fr (.bi o es) = fr (.bi o []) := by cases o <;> rfl
theorem r_op2 {o : Bi} {r : R2} {e : Expr} (h : PE X e (tOp r (TO cf ea) (TO cf eb))) (hs : OpSound o r) : PE X e (T cf (.bi o [ea, eb])) :=
  PE.mk' h fun σ H Q z hT => by
    show TOs cf [ea, eb] σ H fun vs H1 => l2 r vs H1 fun v H2 => SzOk H2 → Q v H2
    exact bi_run hT z fun g tmp ow env s ds d vs H1 z1 rs h2 R => hs (fr_bi _ _) z1 rs h2 R

def rAdd (K : PySem.W.Frag) : R2 := fun x y H Q => rI0 (fun i j => .int (i + j)) x y H Q ∨ rCat x y H Q ∨ rCatF K x y H Q
theorem binD_add {x y d : D} (h : binD .add x y = some d) : (∃ i j, x = .int i ∧ y = .int j ∧ d = .int (i + j)) ∨ (∃ a b, x = .lst a ∧ y = .lst b ∧ a.length + b.length ≤ szLine ∧ d = .lst (a ++ b)) ∨ (∃ a b, x = .tup a ∧ y = .tup b ∧ a.length + b.length ≤ szLine ∧ d = .tup (a ++ b)) := by
  cases x <;> cases y <;> simp only [binD] at h <;> first | cases h | skip
  · exact .inl ⟨_, _, rfl, rfl, rfl⟩
  · split at h
    · cases h; exact .inr (.inl ⟨_, _, rfl, rfl, by assumption, rfl⟩)
    · cases h
  · split at h
    · cases h; exact .inr (.inr ⟨_, _, rfl, rfl, by assumption, rfl⟩)
    · cases h
theorem two_of {o : Bi} {ds : List D} {d : D} (ho : ∃ p, o = .bin p) (h : biD o ds = some d) : ∃ x y, ds = [x, y] := by
  obtain ⟨p, rfl⟩ := ho
  match ds, h with
  | [x, y], _ => exact ⟨x, y, rfl⟩
theorem add_sound {K : PySem.W.Frag} : OpSound (.bin .add) (rAdd K) := by
  intro f g tmp ow σ env s ds d vs H Q hf z rs h R
  subst hf
  obtain ⟨x, y, rfl⟩ := two_of ⟨_, rfl⟩ h
  obtain ⟨v, w, rfl, rv, rw_⟩ := rs.two
  have h : binD .add x y = some d := h
  rcases binD_add h with ⟨i, j, rfl, rfl, rfl⟩ | ⟨a, b, rfl, rfl, hl, rfl⟩ | ⟨a, b, rfl, rfl, hl, rfl⟩
  · exact .inl ⟨i, j, rv.int, rw_.int, fun z' => R.int z'⟩
  · obtain ⟨p, xs, rfl, hp, r1⟩ := rv.lst
    obtain ⟨q, ys, rfl, hq, r2⟩ := rw_.lst
    exact .inr (.inl ⟨p, q, xs, ys, rfl, rfl, hp, hq, by rw [r1.length, r2.length]; exact hl, fun t ht z' => R.lst (r1.append r2) ht z'⟩)
  · obtain ⟨p, xs, rfl, np, hp, r1⟩ := rv.tup
    obtain ⟨q, ys, rfl, nq, hq, r2⟩ := rw_.tup
    refine .inr (.inr ⟨g.aS.fz, p, q, xs, ys, rfl, rfl, hp.sq, hq.sq, by rw [r1.length, r2.length]; exact hl, fun e z' => ?_, fun e1 e2 z' => ?_, fun _ _ t o hd ht z' => R.tup (r1.append r2) hd ht z'⟩)
    · subst e
      cases r1
      exact R.val (.tup nq hq r2) (fun _ => rfl) z'
    · subst e2
      cases r2
      rw [List.append_nil] at R
      exact R.val (.tup np hp r1) (fun _ => rfl) z'
theorem r_add (ha : PE X a (TO cf ea)) (hb : PE X b (TO cf eb)) : PE X (.BinOp a .Add b pos) (T cf (.bi (.bin .add) [ea, eb])) :=
  r_op2 (pe_op (OpR.alt op_add (OpR.alt op_cat op_catF)) ha hb) (add_sound (K := X.K))

/-- rules of ints alone -/
theorem int_sound {p : Bop} {C : Int → Int → Prop} {gg : Int → Int → Int} (h : ∀ x y d, binD p x y = some d → ∃ i j, x = .int i ∧ y = .int j ∧ C i j ∧ d = .int (gg i j)) : OpSound (.bin p) (rI C fun i j => .int (gg i j)) := by
  intro f g tmp ow σ env s ds d vs H Q hf z rs h2 R
  obtain ⟨x, y, rfl⟩ := two_of ⟨_, rfl⟩ h2
  obtain ⟨v, w, rfl, rv, rw_⟩ := rs.two
  obtain ⟨i, j, rfl, rfl, c, rfl⟩ := h x y d h2
  exact ⟨i, j, rv.int, rw_.int, c, fun z' => R.int z'⟩
theorem r_sub (ha : PE X a (TO cf ea)) (hb : PE X b (TO cf eb)) : PE X (.BinOp a .Sub b pos) (T cf (.bi (.bin .sub) [ea, eb])) := by
  refine r_op2 (pe_op op_sub ha hb) ?_
  intro f g tmp ow σ env s ds d vs H Q hf z rs h2 R
  obtain ⟨x, y, rfl⟩ := two_of ⟨_, rfl⟩ h2
  obtain ⟨v, w, rfl, rv, rw_⟩ := rs.two
  have h2 : binD .sub x y = some d := h2
  cases x <;> cases y <;> simp only [binD] at h2 <;> first | cases h2 | skip
  exact ⟨_, _, rv.int, rw_.int, fun z' => R.int z'⟩
theorem r_fdiv (ha : PE X a (TO cf ea)) (hb : PE X b (TO cf eb)) : PE X (.BinOp a .FloorDiv b pos) (T cf (.bi (.bin .fdiv) [ea, eb])) := by
  refine r_op2 (pe_op op_fdiv ha hb) (int_sound fun x y d h => ?_)
  cases x <;> cases y <;> simp only [binD] at h <;> first | cases h | skip
  split at h
  · cases h; exact ⟨_, _, rfl, rfl, by assumption, rfl⟩
  · cases h
theorem r_mod (ha : PE X a (TO cf ea)) (hb : PE X b (TO cf eb)) : PE X (.BinOp a .Mod b pos) (T cf (.bi (.bin .mod) [ea, eb])) := by
  refine r_op2 (pe_op op_mod ha hb) (int_sound fun x y d h => ?_)
  cases x <;> cases y <;> simp only [binD] at h <;> first | cases h | skip
  split at h
  · cases h; exact ⟨_, _, rfl, rfl, by assumption, rfl⟩
  · cases h
theorem r_pow (ha : PE X a (TO cf ea)) (hb : PE X b (TO cf eb)) : PE X (.BinOp a .Pow b pos) (T cf (.bi (.bin .pow) [ea, eb])) := by
  refine r_op2 (pe_op op_pow ha hb) (int_sound fun x y d h => ?_)
  cases x <;> cases y <;> simp only [binD] at h <;> first | cases h | skip
  split at h
  · cases h; exact ⟨_, _, rfl, rfl, by assumption, rfl⟩
  · cases h
theorem r_shl (ha : PE X a (TO cf ea)) (hb : PE X b (TO cf eb)) : PE X (.BinOp a .LShift b pos) (T cf (.bi (.bin .shl) [ea, eb])) := by
  refine r_op2 (pe_op op_shl ha hb) (int_sound fun x y d h => ?_)
  cases x <;> cases y <;> simp only [binD] at h <;> first | cases h | skip
  split at h
  · cases h; exact ⟨_, _, rfl, rfl, by assumption, rfl⟩
  · cases h
theorem r_shr (ha : PE X a (TO cf ea)) (hb : PE X b (TO cf eb)) : PE X (.BinOp a .RShift b pos) (T cf (.bi (.bin .shr) [ea, eb])) := by
  refine r_op2 (pe_op op_shr ha hb) (int_sound fun x y d h => ?_)
  cases x <;> cases y <;> simp only [binD] at h <;> first | cases h | skip
  split at h
  · cases h; exact ⟨_, _, rfl, rfl, by assumption, rfl⟩
  · cases h
def rMul (K : PySem.W.Frag) : R2 := fun x y H Q => rI CMul (fun i j => .int (i * j)) x y H Q ∨ rRep x y H Q
theorem mul_sound {K : PySem.W.Frag} : OpSound (.bin .mul) (rMul K) := by
  intro f g tmp ow σ env s ds d vs H Q hf z rs h R
  subst hf
  obtain ⟨x, y, rfl⟩ := two_of ⟨_, rfl⟩ h
  obtain ⟨v, w, rfl, rv, rw_⟩ := rs.two
  have h : binD .mul x y = some d := h
  cases x <;> cases y <;> simp only [binD] at h <;> first | cases h | skip
  · split at h
    · cases h; exact .inl ⟨_, _, rv.int, rw_.int, by assumption, fun z' => R.int z'⟩
    · cases h
  · split at h
    · rename_i c
      cases h
      obtain ⟨p, xs, rfl, hp, r1⟩ := rv.lst
      exact .inr ⟨p, _, xs, rfl, rw_.int, hp, c.1, c.2.1, by rw [r1.length]; exact c.2.2, fun t ht z' => R.lst (r1.rep _) ht z'⟩
    · cases h
theorem r_mul (ha : PE X a (TO cf ea)) (hb : PE X b (TO cf eb)) : PE X (.BinOp a .Mult b pos) (T cf (.bi (.bin .mul) [ea, eb])) :=
  r_op2 (pe_op (OpR.alt op_mul op_rep) ha hb) (mul_sound (K := X.K))
theorem r_neg (ha : PE X a (TO cf ea)) : PE X (.UnaryOp .USub a pos) (T cf (.bi .neg [ea])) :=
  PE.mk' (pe_un un_neg ha) fun σ H Q z hT => by
    show TOs cf [ea] σ H fun vs H1 => l1 (rU fun i => .int (-i)) vs H1 fun v H2 => SzOk H2 → Q v H2
    refine bi_run hT z fun g tmp ow env s ds d vs H1 z1 rs h2 R => ?_
    match ds, h2 with
    | [.int i], h2 =>
      obtain ⟨v, rfl, rv⟩ := rs.one
      cases h2
      exact ⟨i, rv.int, fun z' => R.int z'⟩
end
end Rf
end

section
set_option linter.all false
set_option Elab.async false
set_option maxRecDepth 100000
namespace Rf
open PySem L2

theorem codes_toList (cs : List Nat) : (codes cs).cps.toList = cs := by simp [codes]
theorem codes_inj {a b : List Nat} (h : codes a = codes b) : a = b := by rw [← codes_toList a, h, codes_toList]
mutual
theorem shp_py : ∀ (d : D) (k : Nat), D.shp d k = true → ∃ p, toPy d = some p ∧ p.canLay0 = true ∧ p.depth ≤ k
  | .non, k, _ => ⟨_, rfl, rfl, Nat.zero_le _⟩
  | .bl _, k, _ => ⟨_, rfl, rfl, Nat.zero_le _⟩
  | .int _, k, _ => ⟨_, rfl, rfl, Nat.zero_le _⟩
  | .str cs, k, h => by
    refine ⟨_, rfl, ?_, Nat.zero_le _⟩
    simp only [D.shp, Bool.and_eq_true, List.all_eq_true, decide_eq_true_eq] at h
    show PyData.strOk (codes cs) = true
    unfold PyData.strOk codes
    rw [Array.all_eq_true']
    intro x hx
    have := h.1 x (by simpa using hx)
    simp; omega
  | .lst xs, k, h => by
    cases k with
    | zero => simp [D.shp] at h
    | succ k =>
      obtain ⟨ps, e, c, dp⟩ := shpL_py xs k (by simpa [D.shp] using h)
      refine ⟨.list ps, by simp [toPy, e], ?_, ?_⟩
      · simpa [PyData.canLay0] using c
      · simp only [PyData.depth]; omega
  | .tup xs, k, h => by
    cases k with
    | zero => simp [D.shp] at h
    | succ k =>
      obtain ⟨ps, e, c, dp⟩ := shpL_py xs k (by simpa [D.shp] using h)
      refine ⟨.tuple ps, by simp [toPy, e], ?_, ?_⟩
      · simpa [PyData.canLay0] using c
      · simp only [PyData.depth]; omega
  | .rep _, k, h => by simp [D.shp] at h
  | .dct _ _, k, h => by simp [D.shp] at h
  | .src, k, h => by simp [D.shp] at h
theorem shpL_py : ∀ (ds : List D) (k : Nat), D.shpL ds k = true → ∃ ps, toPys ds = some ps ∧ PyData.canLayAll0 ps = true ∧ PyData.depthAll ps ≤ k
  | [], k, _ => ⟨[], rfl, rfl, Nat.zero_le _⟩
  | d :: ds, k, h => by
    simp only [D.shpL, Bool.and_eq_true] at h
    obtain ⟨p, e1, c1, d1⟩ := shp_py d k h.1
    obtain ⟨ps, e2, c2, d2⟩ := shpL_py ds k h.2
    refine ⟨p :: ps, by simp [toPys, e1, e2], ?_, ?_⟩
    · simp [PyData.canLayAll0, c1, c2]
    · simp only [PyData.depthAll]; omega
end
theorem dec_beq (i j : Int) : decide (i = j) = (i == j) := by
  rw [Bool.eq_iff_iff, decide_eq_true_eq, beq_iff_eq]
theorem codes_beq (x y : List Nat) : (x == y) = (codes x == codes y) := by
  rw [Bool.eq_iff_iff, beq_iff_eq, beq_iff_eq]
  exact ⟨fun h => by rw [h], codes_inj⟩
mutual
theorem eqv_py : ∀ (a b : D) (p q : PyData), toPy a = some p → toPy b = some q → D.eqv a b = PyData.eqv p q
  | .lst xs, b, p, q, ha, hb => by
    simp only [toPy, Option.map_eq_some_iff] at ha
    obtain ⟨ps, e, rfl⟩ := ha
    cases b <;> simp only [toPy, Option.some.injEq, Option.map_eq_some_iff, reduceCtorEq] at hb <;> first
      | (obtain ⟨qs, e2, rfl⟩ := hb; simp only [D.eqv, PyData.eqv] <;> first | exact eqvL_py xs _ ps qs e e2 | rfl)
      | (subst hb; simp only [D.eqv, PyData.eqv])
  | .tup xs, b, p, q, ha, hb => by
    simp only [toPy, Option.map_eq_some_iff] at ha
    obtain ⟨ps, e, rfl⟩ := ha
    cases b <;> simp only [toPy, Option.some.injEq, Option.map_eq_some_iff, reduceCtorEq] at hb <;> first
      | (obtain ⟨qs, e2, rfl⟩ := hb; simp only [D.eqv, PyData.eqv] <;> first | exact eqvL_py xs _ ps qs e e2 | rfl)
      | (subst hb; simp only [D.eqv, PyData.eqv])
  | .non, b, p, q, ha, hb => by
    simp only [toPy, Option.some.injEq] at ha
    subst ha
    cases b <;> simp only [toPy, Option.some.injEq, Option.map_eq_some_iff, reduceCtorEq] at hb <;> first
      | (obtain ⟨qs, e2, rfl⟩ := hb; simp only [D.eqv, PyData.eqv]; done)
      | (subst hb; simp only [D.eqv, PyData.eqv])
  | .bl x, b, p, q, ha, hb => by
    simp only [toPy, Option.some.injEq] at ha
    subst ha
    cases b <;> simp only [toPy, Option.some.injEq, Option.map_eq_some_iff, reduceCtorEq] at hb <;> first
      | (obtain ⟨qs, e2, rfl⟩ := hb; simp only [D.eqv, PyData.eqv]; done)
      | (subst hb; simp only [D.eqv, PyData.eqv]; exact dec_beq _ _)
      | (subst hb; simp only [D.eqv, PyData.eqv])
  | .int x, b, p, q, ha, hb => by
    simp only [toPy, Option.some.injEq] at ha
    subst ha
    cases b <;> simp only [toPy, Option.some.injEq, Option.map_eq_some_iff, reduceCtorEq] at hb <;> first
      | (obtain ⟨qs, e2, rfl⟩ := hb; simp only [D.eqv, PyData.eqv]; done)
      | (subst hb; simp only [D.eqv, PyData.eqv]; exact dec_beq _ _)
      | (subst hb; simp only [D.eqv, PyData.eqv])
  | .str x, b, p, q, ha, hb => by
    simp only [toPy, Option.some.injEq] at ha
    subst ha
    cases b <;> simp only [toPy, Option.some.injEq, Option.map_eq_some_iff, reduceCtorEq] at hb <;> first
      | (obtain ⟨qs, e2, rfl⟩ := hb; simp only [D.eqv, PyData.eqv]; done)
      | (subst hb; simp only [D.eqv, PyData.eqv]; exact codes_beq x _)
      | (subst hb; simp only [D.eqv, PyData.eqv])
  | .rep _, b, p, q, ha, hb => by simp [toPy] at ha
  | .dct _ _, b, p, q, ha, hb => by simp [toPy] at ha
  | .src, b, p, q, ha, hb => by simp [toPy] at ha
theorem eqvL_py : ∀ (a b : List D) (p q : List PyData), toPys a = some p → toPys b = some q → D.eqvL a b = PyData.eqvAll p q
  | [], [], p, q, ha, hb => by simp only [toPys, Option.some.injEq] at ha hb; subst ha hb; rfl
  | [], y :: ys, p, q, ha, hb => by
    simp only [toPys, Option.some.injEq] at ha; subst ha
    simp only [toPys, Option.bind_eq_some_iff, Option.map_eq_some_iff] at hb
    obtain ⟨q1, _, qs, _, rfl⟩ := hb
    rfl
  | x :: xs, [], p, q, ha, hb => by
    simp only [toPys, Option.some.injEq] at hb; subst hb
    simp only [toPys, Option.bind_eq_some_iff, Option.map_eq_some_iff] at ha
    obtain ⟨q1, _, qs, _, rfl⟩ := ha
    rfl
  | x :: xs, y :: ys, p, q, ha, hb => by
    simp only [toPys, Option.bind_eq_some_iff, Option.map_eq_some_iff] at ha hb
    obtain ⟨p1, e1, ps, e2, rfl⟩ := ha
    obtain ⟨q1, e3, qs, e4, rfl⟩ := hb
    simp only [D.eqvL, PyData.eqvAll]
    rw [eqv_py x y p1 q1 e1 e3, eqvL_py xs ys ps qs e2 e4]
end
mutual
theorem rep_dp {K : PySem.W.Frag} {aS : AS} {A : Addr → Prop} {H : Hp} : ∀ {v : V} {d : D} {p : PyData}, Rep aS A H v d → toPy d = some p → Dp K H v p
  | _, _, _, .non, e => by cases e; exact .non
  | _, _, _, .bl b, e => by cases e; exact .bl b
  | _, _, _, .int b, e => by cases e; exact .int b
  | _, _, _, .str b, e => by cases e; exact .str _
  | _, _, _, .rep _, e => by cases e
  | _, _, _, .lst _ h r, e => by
    simp only [toPy, Option.map_eq_some_iff] at e
    obtain ⟨ps, e, rfl⟩ := e
    exact .lst (SqL.of h) (repL_dp r e)
  | _, _, _, .tup _ h r, e => by
    simp only [toPy, Option.map_eq_some_iff] at e
    obtain ⟨ps, e, rfl⟩ := e
    exact .tup h.sq (repL_dp r e)
  | _, _, _, .dctK .., e => by cases e
  | _, _, _, .dctT .., e => by cases e
  | _, _, _, .src, e => by cases e
theorem repL_dp {K : PySem.W.Frag} {aS : AS} {A : Addr → Prop} {H : Hp} : ∀ {vs : List V} {ds : List D} {ps : List PyData}, RepL aS A H vs ds → toPys ds = some ps → DpAll K H vs ps
  | _, _, _, .nil, e => by cases e; exact .nil
  | _, _, _, .cons a r, e => by
    simp only [toPys, Option.bind_eq_some_iff, Option.map_eq_some_iff] at e
    obtain ⟨p, e1, ps, e2, rfl⟩ := e
    exact .cons (rep_dp a e1) (repL_dp r e2)
end
theorem RepT.dp {K : PySem.W.Frag} {aS : AS} {A : Addr → Prop} {H : Hp} {v : V} {d : D} {p : PyData} (h : RepT aS A H v d) (e : toPy d = some p) : Dp K H v p := by
  rcases h with h | ⟨a, rfl, h⟩
  · exact rep_dp h e
  · cases h with
    | lst h r =>
      simp only [toPy, Option.map_eq_some_iff] at e
      obtain ⟨ps, e, rfl⟩ := e
      exact .lst (SqL.of h) (repL_dp r e)
    | dctK => cases e
    | dctT => cases e
theorem shaped_of {p : PyData} (h : p.canLay0 = true) (h2 : p.depth ≤ 60) : SeqAt.shaped p = true := by
  unfold SeqAt.shaped
  rw [h]; simp; omega

theorem two_cmp {o : Cop} {ds : List D} {d : D} (h : biD (.cmp o) ds = some d) : ∃ x y b, ds = [x, y] ∧ cmpD o x y = some b ∧ d = .bl b := by
  match ds, h with
  | [x, y], h =>
    have h : (cmpD o x y).map D.bl = some d := h
    simp only [Option.map_eq_some_iff] at h
    obtain ⟨b, h1, h2⟩ := h
    exact ⟨x, y, b, rfl, h1, h2.symm⟩
mutual
theorem same_iff : ∀ (a b : D), D.same a b = true → a = b
  | .non, b, h => by cases b <;> simp_all [D.same]
  | .bl _, b, h => by cases b <;> simp_all [D.same]
  | .int _, b, h => by cases b <;> simp_all [D.same]
  | .str _, b, h => by cases b <;> simp_all [D.same]
  | .rep x, b, h => by
    cases b <;> simp only [D.same, Bool.false_eq_true] at h
    rw [same_iff x _ h]
  | .lst x, b, h => by
    cases b <;> simp only [D.same, Bool.false_eq_true] at h
    rw [sameL_iff x _ h]
  | .tup x, b, h => by
    cases b <;> simp only [D.same, Bool.false_eq_true] at h
    rw [sameL_iff x _ h]
  | .dct s x, b, h => by
    cases b <;> simp only [D.same, Bool.false_eq_true, Bool.and_eq_true, beq_iff_eq] at h
    rw [h.1, sameP_iff x _ h.2]
  | .src, b, h => by cases b <;> simp_all [D.same]
theorem sameL_iff : ∀ (a b : List D), D.sameL a b = true → a = b
  | [], [], _ => rfl
  | [], _ :: _, h => by simp [D.sameL] at h
  | _ :: _, [], h => by simp [D.sameL] at h
  | x :: xs, y :: ys, h => by
    simp only [D.sameL, Bool.and_eq_true] at h
    rw [same_iff x y h.1, sameL_iff xs ys h.2]
theorem sameP_iff : ∀ (a b : List (D × D)), D.sameP a b = true → a = b
  | [], [], _ => rfl
  | [], _ :: _, h => by simp [D.sameP] at h
  | _ :: _, [], h => by simp [D.sameP] at h
  | (a, b) :: xs, (c, d) :: ys, h => by
    simp only [D.sameP, Bool.and_eq_true] at h
    rw [same_iff a c h.1.1, same_iff b d h.1.2, sameP_iff xs ys h.2]
end
/-- == -/
theorem Res.bl' {b : Bool} {g : Gp} {tmp : List Addr} {ow : Ow} {σ : St} {H : Hp} {env : Env} {s : Sr} {Q : VK} {i j : Bool} (R : Res b g tmp ow σ H env s (.bl i) Q) (e : j = i) (z : SzOk H) : Q (.bl j) H := by rw [e]; exact R.bl z
theorem eqD_split {x y : D} {b : Bool} (h : eqD x y = some b) : (∃ u, x = .rep u ∧ y = .rep u ∧ b = true) ∨ (D.shp x 60 = true ∧ D.shp y 60 = true ∧ b = D.eqv x y) := by
  unfold eqD at h
  split at h
  · split at h
    · rename_i e
      cases h
      obtain rfl := same_iff _ _ e
      exact .inl ⟨_, rfl, rfl, rfl⟩
    · cases h
  · split at h
    · rename_i e
      rw [Bool.and_eq_true] at e
      cases h
      exact .inr ⟨e.1, e.2, rfl⟩
    · cases h
theorem RepT.repS {aS : AS} {A : Addr → Prop} {H : Hp} {v : V} {u : D} (h : RepT aS A H v (.rep u)) : ∃ s, v = .str s ∧ repS u = some s := by
  rcases h with h | ⟨a, rfl, h⟩
  · cases h with | rep e => exact ⟨_, rfl, e⟩
  · cases h
def rEqA (K : PySem.W.Frag) : R2 := fun x y H Q => rEqD K x y H Q ∨ rEq x y H Q
def rNeA (K : PySem.W.Frag) : R2 := fun x y H Q => rNeD K x y H Q ∨ rNe x y H Q
theorem eq_sound {K : PySem.W.Frag} : OpSound (.cmp .eq) (rEqA K) := by
  intro f g tmp ow σ env s ds d vs H Q hf z rs h R
  obtain ⟨x, y, b, rfl, hc, rfl⟩ := two_cmp h
  obtain ⟨v, w, rfl, rv, rw_⟩ := rs.two
  have h : eqD x y = some b := hc
  rcases eqD_split h with ⟨u, rfl, rfl, rfl⟩ | ⟨h1, h2, rfl⟩
  · obtain ⟨s1, rfl, e1⟩ := rv.repS
    obtain ⟨s2, rfl, e2⟩ := rw_.repS
    rw [e1] at e2; cases e2
    exact .inr ⟨rfl, fun z' => R.bl' (decide_eq_true rfl) z'⟩
  · obtain ⟨p, e1, c1, d1⟩ := shp_py x 60 h1
    obtain ⟨q, e2, c2, d2⟩ := shp_py y 60 h2
    rw [eqv_py x y p q e1 e2] at R
    exact .inl ⟨p, q, rv.dp e1, rw_.dp e2, shaped_of c1 d1, shaped_of c2 d2, fun z' => R.bl z'⟩
theorem ne_sound {K : PySem.W.Frag} : OpSound (.cmp .ne) (rNeA K) := by
  intro f g tmp ow σ env s ds d vs H Q hf z rs h R
  obtain ⟨x, y, b, rfl, hc, rfl⟩ := two_cmp h
  obtain ⟨v, w, rfl, rv, rw_⟩ := rs.two
  have h : (eqD x y).map (!·) = some b := hc
  simp only [Option.map_eq_some_iff] at h
  obtain ⟨c, hq, rfl⟩ := h
  rcases eqD_split hq with ⟨u, rfl, rfl, rfl⟩ | ⟨h1, h2, rfl⟩
  · obtain ⟨s1, rfl, e1⟩ := rv.repS
    obtain ⟨s2, rfl, e2⟩ := rw_.repS
    rw [e1] at e2; cases e2
    exact .inr ⟨rfl, fun z' => R.bl' (by show (!decide (V.str s1 = V.str s1)) = !true; rw [decide_eq_true rfl]) z'⟩
  · obtain ⟨p, e1, c1, d1⟩ := shp_py x 60 h1
    obtain ⟨q, e2, c2, d2⟩ := shp_py y 60 h2
    rw [eqv_py x y p q e1 e2] at R
    exact .inl ⟨p, q, rv.dp e1, rw_.dp e2, shaped_of c1 d1, shaped_of c2 d2, fun z' => R.bl z'⟩
/-- in, not in: lists, tuples of data -/
def rInA (K : PySem.W.Frag) (neg : Bool) : R2 := fun x y H Q => ∃ d ds, Dp K H x d ∧ (Dp K H y (.list ds) ∨ Dp K H y (.tuple ds)) ∧ SeqAt.shaped d = true ∧ SeqAt.shaped (.list ds) = true ∧ Q (.bl (if neg then !(ds.any fun z => PyData.eqv z d) else ds.any fun z => PyData.eqv z d)) H
theorem op_inA {X : Cx} (hu : X.A.units + 65 < cLine) : OpR X (compareOp .In) (rInA X.K false) := by
  intro pins s σ H x y v u Q I rx ry h
  obtain ⟨d, ds, hd, he, sd, se, q⟩ := h
  obtain ⟨as, r1⟩ := Dp.reads I d x v hd rx
  rcases he with he | he
  · obtain ⟨bs, r2⟩ := Dp.reads I (.list ds) y u he ry
    exact SeqAt.in_list_reads r2 r1 (SeqAt.canLay_of_shaped se) (SeqAt.canLay_of_shaped sd) (PyProof.Rows.room_in_shaped sd hu) ⟨.bl _, H, I, rfl, q⟩
  · obtain ⟨bs, r2⟩ := Dp.reads I (.tuple ds) y u he ry
    exact SeqAt.in_tuple_reads r2 r1 (SeqAt.canLay_of_shaped se) (SeqAt.canLay_of_shaped sd) (PyProof.Rows.room_in_shaped sd hu) ⟨.bl _, H, I, rfl, q⟩
theorem op_notInA {X : Cx} (hu : X.A.units + 65 < cLine) : OpR X (compareOp .NotIn) (rInA X.K true) := by
  intro pins s σ H x y v u Q I rx ry h
  obtain ⟨d, ds, hd, he, sd, se, q⟩ := h
  obtain ⟨as, r1⟩ := Dp.reads I d x v hd rx
  rcases he with he | he
  · obtain ⟨bs, r2⟩ := Dp.reads I (.list ds) y u he ry
    exact SeqAt.notIn_list_reads r2 r1 (SeqAt.canLay_of_shaped se) (SeqAt.canLay_of_shaped sd) (PyProof.Rows.room_in_shaped sd hu) ⟨.bl _, H, I, rfl, q⟩
  · obtain ⟨bs, r2⟩ := Dp.reads I (.tuple ds) y u he ry
    exact SeqAt.notIn_tuple_reads r2 r1 (SeqAt.canLay_of_shaped se) (SeqAt.canLay_of_shaped sd) (PyProof.Rows.room_in_shaped sd hu) ⟨.bl _, H, I, rfl, q⟩
theorem any_py {x : D} {p : PyData} (e : toPy x = some p) : ∀ {xs : List D} {ps : List PyData}, toPys xs = some ps → (xs.any fun z => D.eqv z x) = ps.any fun z => PyData.eqv z p
  | [], ps, h => by cases h; rfl
  | y :: ys, ps, h => by
    simp only [toPys, Option.bind_eq_some_iff, Option.map_eq_some_iff] at h
    obtain ⟨q, e1, qs, e2, rfl⟩ := h
    simp only [List.any_cons]
    rw [eqv_py y x q p e1 e, any_py e e2]
theorem inA_core {K : PySem.W.Frag} {neg b : Bool} {x y : D} {v w : V} {f : Bool} {g : Gp} {tmp : List Addr} {ow : Ow} {σ : St} {H : Hp} {env : Env} {s : Sr} {Q : VK} (rv : RepT g.aS (Av g tmp ow) H v x) (rw_ : RepT g.aS (Av g tmp ow) H w y)
    (hd : ∀ t kvs, y ≠ .dct t kvs) (h : inD x y = some b) (R : Res f g tmp ow σ H env s (.bl (if neg then !b else b)) Q) : rInA K neg v w H (fun v H2 => SzOk H2 → Q v H2) := by
  have key : ∃ xs, (y = .lst xs ∨ y = .tup xs) ∧ D.shp x 60 = true ∧ D.shpL xs 60 = true ∧ b = (xs.any fun z => D.eqv z x) := by
    unfold inD at h
    split at h
    · split at h
      · rename_i e; rw [Bool.and_eq_true] at e; cases h; exact ⟨_, .inl rfl, e.1, e.2, rfl⟩
      · cases h
    · split at h
      · rename_i e; rw [Bool.and_eq_true] at e; cases h; exact ⟨_, .inr rfl, e.1, e.2, rfl⟩
      · cases h
    · exact absurd rfl (hd _ _)
    · cases h
  obtain ⟨xs, hy, h1, h2, rfl⟩ := key
  obtain ⟨p, e1, c1, d1⟩ := shp_py x 60 h1
  obtain ⟨ps, e2, c2, d2⟩ := shpL_py xs 60 h2
  rw [any_py e1 e2] at R
  refine ⟨p, ps, rv.dp e1, ?_, shaped_of c1 d1, ?_, fun z' => R.bl z'⟩
  · rcases hy with rfl | rfl
    · exact .inl (rw_.dp (by simp [toPy, e2]))
    · exact .inr (rw_.dp (by simp [toPy, e2]))
  · have e3 : (PyData.list ps).canLay0 = true := by simp only [PyData.canLay0]; exact c2
    have e4 : (PyData.list ps).depth ≤ 64 := by simp only [PyData.depth]; omega
    unfold SeqAt.shaped
    rw [e3]
    simpa using e4
end Rf
end

section
set_option linter.all false
set_option Elab.async false
set_option maxRecDepth 100000
namespace Rf
open PySem L2

/-- what a body's context gives -/
structure Cok (X : Cx) : Prop where
  calm : X.calm = true
  units : X.A.units + 200 < cLine
  guards : X.A.guards = some []
  nd : X.N.Nodup
theorem Cok.blk {X : Cx} (c : Cok X) (s : Shared) (H : Hp) (scope : Scope) (cenv : PySem.Env) (fp : List Addr) : Cok (X.blk s H scope cenv fp) := ⟨c.calm, c.units, c.guards, c.nd⟩

section
variable {X : Cx} {cf : Cf} {a b c : Expr} {ea eb ec : Ex} {pos : Pos}
/-- one comparison, ahead of its use as a value or as a test -/
theorem pc_op {ta tb : TE} {op : CmpOp} {r : R2} (ho : OpR X (compareOp op) r) (ha : PE X a ta) (hb : PE X b tb) : PC X op a b (tOp r ta tb) :=
  ⟨fun pins s σ H Q I h => binT ha hb I h fun v u s2 x y H2 I2 rx ry q => ho pins s2 σ H2 x y v u Q I2 rx ry q⟩
theorem PC.mk' {op : CmpOp} {t t' : TE} (h : PC X op a b t) (k : ∀ σ H Q, SzOk H → t' σ H Q → t σ H (fun v H1 => SzOk H1 → Q v H1)) : PC X op a b t' :=
  ⟨fun pins s σ H Q I hw => thn (h.run pins s σ H _ I (k σ H Q (szOk_of I) hw)) fun _ _ h1 => thn h1 fun _ _ h2 => thn h2 fun u s' ⟨v, H', I', r, q⟩ => ⟨v, H', I', r, q (szOk_of I')⟩⟩
theorem PC.alt {op : CmpOp} {t t' : TE} (h : PC X op a b t) (h' : PC X op a b t') : PC X op a b (fun σ H Q => t σ H Q ∨ t' σ H Q) :=
  ⟨fun pins s σ H Q I hw => hw.elim (h.run pins s σ H Q I) (h'.run pins s σ H Q I)⟩
theorem p_op2 {op : CmpOp} {o : Bi} {r : R2} (h : PC X op a b (tOp r (TO cf ea) (TO cf eb))) (hs : OpSound o r) : PC X op a b (T cf (.bi o [ea, eb])) :=
  PC.mk' h fun σ H Q z hT => by
    show TOs cf [ea, eb] σ H fun vs H1 => l2 r vs H1 fun v H2 => SzOk H2 → Q v H2
    exact bi_run hT z fun g tmp ow env s ds d vs H1 z1 rs h2 R => hs (fr_bi _ _) z1 rs h2 R
/-- .. as a value -/
theorem r_cmp {op : CmpOp} {x : Ex} (h : PC X op a b (T cf x)) (hm : behindInMarks op b = false := by first | exact nobehind _ (by decide) (by decide) | rfl) : PE X (.Compare a [op] [b] pos) (T cf x) := pe_cmp h hm
theorem p_eq (C : Cok X) (ha : PE X a (TO cf ea)) (hb : PE X b (TO cf eb)) : PC X .Eq a b (T cf (.bi (.cmp .eq) [ea, eb])) :=
  p_op2 (pc_op (OpR.alt (op_eqD (by have := C.units; omega)) op_eq) ha hb) (eq_sound (K := X.K))
theorem p_ne (C : Cok X) (ha : PE X a (TO cf ea)) (hb : PE X b (TO cf eb)) : PC X .NotEq a b (T cf (.bi (.cmp .ne) [ea, eb])) :=
  p_op2 (pc_op (OpR.alt (op_neD (by have := C.units; omega)) op_ne) ha hb) (ne_sound (K := X.K))
/-- order -/
theorem lexLt_eq : ∀ x y : List Int, lexLt x y = HT.lexLt x y
  | [], [] => rfl
  | [], _ :: _ => rfl
  | _ :: _, [] => rfl
  | x :: xs, y :: ys => by
    simp only [lexLt, HT.lexLt]
    rw [lexLt_eq xs ys]
theorem ordD_split {op : Int → Int → Bool} {top : List Int → List Int → Bool} {x y : D} {b : Bool} (h : ordD op top x y = some b) : (∃ i j, x = .int i ∧ y = .int j ∧ b = op i j) ∨ ∃ xs ys m n, x = .tup xs ∧ y = .tup ys ∧ D.intsOf xs = some m ∧ D.intsOf ys = some n ∧ b = top m n := by
  unfold ordD at h
  split at h
  · cases h; exact .inl ⟨_, _, rfl, rfl, rfl⟩
  · split at h
    · cases h; exact .inr ⟨_, _, _, _, rfl, rfl, by assumption, by assumption, rfl⟩
    · cases h
  · cases h
def rLtA (K : PySem.W.Frag) : R2 := fun x y H Q => rI0 (fun i j => .bl (decide (i < j))) x y H Q ∨ rLtT K x y H Q
theorem lt_sound {K : PySem.W.Frag} : OpSound (.cmp .lt) (rLtA K) := by
  intro f g tmp ow σ env s ds d vs H Q hf z rs h R
  obtain ⟨x, y, b, rfl, hc, rfl⟩ := two_cmp h
  obtain ⟨v, w, rfl, rv, rw_⟩ := rs.two
  rcases ordD_split (show ordD _ _ x y = some b from hc) with ⟨i, j, rfl, rfl, rfl⟩ | ⟨xs, ys, m, n, rfl, rfl, e1, e2, rfl⟩
  · exact .inl ⟨i, j, rv.int, rw_.int, fun z' => R.bl z'⟩
  · obtain ⟨p, us, rfl, _, hp, r1⟩ := rv.tup
    obtain ⟨q, ws, rfl, _, hq, r2⟩ := rw_.tup
    rw [lexLt_eq] at R
    exact .inr ⟨p, q, m, n, rfl, rfl, by rw [← r1.ints e1]; exact hp.sq, by rw [← r2.ints e2]; exact hq.sq, fun z' => R.bl z'⟩
theorem p_lt (C : Cok X) (ha : PE X a (TO cf ea)) (hb : PE X b (TO cf eb)) : PC X .Lt a b (T cf (.bi (.cmp .lt) [ea, eb])) :=
  p_op2 (pc_op (OpR.alt op_lt (op_ltT (by have := C.units; omega))) ha hb) (lt_sound (K := X.K))
theorem lexAt_eq : ∀ (x y px py : List Int), px.length = py.length → Ob.lexAt (fun j => decide ((px ++ x).getD j 0 = (py ++ y).getD j 0)) (fun j => decide ((px ++ x).getD j 0 ≤ (py ++ y).getD j 0)) (decide (x.length ≤ y.length)) px.length (min x.length y.length) = !lexLt y x
  | [], [], px, py, h => rfl
  | [], y :: ys, px, py, h => rfl
  | x :: xs, [], px, py, h => by simp [Ob.lexAt, lexLt]
  | x :: xs, y :: ys, px, py, h => by
    have hm : min (x :: xs).length (y :: ys).length = min xs.length ys.length + 1 := by simp only [List.length_cons]; omega
    rw [hm]
    have g1 : (px ++ x :: xs).getD px.length 0 = x := by simp [List.getD]
    have g2 : (py ++ y :: ys).getD px.length 0 = y := by rw [h]; simp [List.getD]
    have ih := lexAt_eq xs ys (px ++ [x]) (py ++ [y]) (by simp [h])
    have e1 : px ++ [x] ++ xs = px ++ x :: xs := by simp
    have e2 : py ++ [y] ++ ys = py ++ y :: ys := by simp
    rw [e1, e2] at ih
    have e3 : (px ++ [x]).length = px.length + 1 := by simp
    rw [e3] at ih
    show (if decide ((px ++ x :: xs).getD px.length 0 = (py ++ y :: ys).getD px.length 0) = true then _ else decide ((px ++ x :: xs).getD px.length 0 ≤ (py ++ y :: ys).getD px.length 0)) = _
    rw [g1, g2]
    by_cases e : x = y
    · subst e
      have e4 : decide ((x :: xs).length ≤ (x :: ys).length) = decide (xs.length ≤ ys.length) := by simp
      rw [if_pos (by simp), e4]
      rw [ih]
      simp [lexLt]
    · have e' : ¬ y = x := fun z => e z.symm
      rw [if_neg (by simpa using e)]
      simp only [lexLt, if_neg e']
      by_cases q : x ≤ y
      · have : ¬ y < x := by omega
        simp [q, this]
      · have : y < x := by omega
        simp [q, this]
def rLeA (K : PySem.W.Frag) : R2 := fun x y H Q => rI0 (fun i j => .bl (decide (i ≤ j))) x y H Q ∨ rLeT K x y H Q
theorem le_sound {K : PySem.W.Frag} : OpSound (.cmp .le) (rLeA K) := by
  intro f g tmp ow σ env s ds d vs H Q hf z rs h R
  obtain ⟨x, y, b, rfl, hc, rfl⟩ := two_cmp h
  obtain ⟨v, w, rfl, rv, rw_⟩ := rs.two
  rcases ordD_split (show ordD _ _ x y = some b from hc) with ⟨i, j, rfl, rfl, rfl⟩ | ⟨xs, ys, m, n, rfl, rfl, e1, e2, rfl⟩
  · exact .inl ⟨i, j, rv.int, rw_.int, fun z' => R.bl z'⟩
  · obtain ⟨p, us, rfl, _, hp, r1⟩ := rv.tup
    obtain ⟨q, ws, rfl, _, hq, r2⟩ := rw_.tup
    have e := lexAt_eq m n [] [] rfl
    exact .inr ⟨p, q, m, n, rfl, rfl, by rw [← r1.ints e1]; exact hp.sq, by rw [← r2.ints e2]; exact hq.sq, fun z' => R.bl' e z'⟩
theorem p_le (C : Cok X) (ha : PE X a (TO cf ea)) (hb : PE X b (TO cf eb)) : PC X .LtE a b (T cf (.bi (.cmp .le) [ea, eb])) :=
  p_op2 (pc_op (OpR.alt op_le (op_leT (by have := C.units; omega))) ha hb) (le_sound (K := X.K))
theorem p_gt (ha : PE X a (TO cf ea)) (hb : PE X b (TO cf eb)) : PC X .Gt a b (T cf (.bi (.cmp .gt) [ea, eb])) := by
  refine p_op2 (pc_op op_gt ha hb) ?_
  intro f g tmp ow σ env s ds d vs H Q hf z rs h R
  obtain ⟨x, y, b, rfl, hc, rfl⟩ := two_cmp h
  obtain ⟨v, w, rfl, rv, rw_⟩ := rs.two
  cases x <;> cases y <;> simp only [cmpD] at hc <;> first | cases hc | skip
  exact ⟨_, _, rv.int, rw_.int, fun z' => R.bl z'⟩
theorem p_ge (ha : PE X a (TO cf ea)) (hb : PE X b (TO cf eb)) : PC X .GtE a b (T cf (.bi (.cmp .ge) [ea, eb])) := by
  refine p_op2 (pc_op op_ge ha hb) ?_
  intro f g tmp ow σ env s ds d vs H Q hf z rs h R
  obtain ⟨x, y, b, rfl, hc, rfl⟩ := two_cmp h
  obtain ⟨v, w, rfl, rv, rw_⟩ := rs.two
  cases x <;> cases y <;> simp only [cmpD] at hc <;> first | cases hc | skip
  exact ⟨_, _, rv.int, rw_.int, fun z' => R.bl z'⟩
/-- not, and, or, if -/
theorem r_not (ha : PE X a (T cf ea)) : PE X (.UnaryOp .Not a pos) (T cf (.not ea)) := by
  refine PE.mk' (pe_not ha) fun σ H Q z ⟨g, tmp, ow, env, s, d, env', s', S, he, k⟩ => ?_
  simp only [ev] at he
  cases h1 : ev cf ea env s with
  | none => rw [h1] at he; cases he
  | some q =>
    obtain ⟨d1, env1, s1⟩ := q
    rw [h1] at he
    cases d1 with
    | bl c =>
      simp only [Option.some.injEq, Prod.mk.injEq] at he
      obtain ⟨rfl, rfl, rfl⟩ := he
      refine T.weak S h1 fun v H1 ow1 z1 S1 F1 r1 => ?_
      cases r1
      exact ⟨c, rfl, fun z' => k _ H1 tmp ow1 z' S1 F1 (.inl ⟨rfl, .bl _, fun _ => rfl⟩)⟩
    | _ => simp at he
theorem r_one {op : BoolOp} (ha : PE X a (T cf ea)) : PE X (.BoolOp op [a] pos) (T cf ea) := pe_one ha
theorem r_and {rest : List Expr} (ha : PE X a (T cf ea)) (hb : PE X (.BoolOp .And (b :: rest) pos) (T cf eb)) : PE X (.BoolOp .And (a :: b :: rest) pos) (T cf (.and ea eb)) := by
  refine PE.mk' (pe_and ha hb) fun σ H Q z ⟨g, tmp, ow, env, s, d, env', s', S, he, k⟩ => ?_
  simp only [ev] at he
  cases h1 : ev cf ea env s with
  | none => rw [h1] at he; cases he
  | some q =>
    obtain ⟨d1, env1, s1⟩ := q
    rw [h1] at he
    cases d1 with
    | bl c =>
      refine T.weak S h1 fun v H1 ow1 z1 S1 F1 r1 => ?_
      cases r1
      refine ⟨c, rfl, ?_⟩
      cases c with
      | true =>
        rw [if_pos rfl]
        dsimp only at he
        rw [if_pos rfl] at he
        refine T.weak S1 he fun v2 H2 ow2 z2 S2 F2 r2 => fun z' => k _ H2 tmp ow2 z' S2 (F1.trans F2 fun _ h => h) (.inl ⟨rfl, r2, fun h => by cases h⟩)
      | false =>
        rw [if_neg Bool.false_ne_true]
        dsimp only at he
        rw [if_neg Bool.false_ne_true] at he
        simp only [Option.some.injEq, Prod.mk.injEq] at he
        obtain ⟨rfl, rfl, rfl⟩ := he
        exact fun z' => k _ H1 tmp ow1 z' S1 F1 (.inl ⟨rfl, .bl _, fun _ => rfl⟩)
    | _ => simp at he
theorem r_or {rest : List Expr} (ha : PE X a (T cf ea)) (hb : PE X (.BoolOp .Or (b :: rest) pos) (T cf eb)) : PE X (.BoolOp .Or (a :: b :: rest) pos) (T cf (.or ea eb)) := by
  refine PE.mk' (pe_or ha hb) fun σ H Q z ⟨g, tmp, ow, env, s, d, env', s', S, he, k⟩ => ?_
  simp only [ev] at he
  cases h1 : ev cf ea env s with
  | none => rw [h1] at he; cases he
  | some q =>
    obtain ⟨d1, env1, s1⟩ := q
    rw [h1] at he
    cases d1 with
    | bl c =>
      refine T.weak S h1 fun v H1 ow1 z1 S1 F1 r1 => ?_
      cases r1
      refine ⟨c, rfl, ?_⟩
      cases c with
      | false =>
        rw [if_neg Bool.false_ne_true]
        dsimp only at he
        rw [if_neg Bool.false_ne_true] at he
        refine T.weak S1 he fun v2 H2 ow2 z2 S2 F2 r2 => fun z' => k _ H2 tmp ow2 z' S2 (F1.trans F2 fun _ h => h) (.inl ⟨rfl, r2, fun h => by cases h⟩)
      | true =>
        rw [if_pos rfl]
        dsimp only at he
        rw [if_pos rfl] at he
        simp only [Option.some.injEq, Prod.mk.injEq] at he
        obtain ⟨rfl, rfl, rfl⟩ := he
        exact fun z' => k _ H1 tmp ow1 z' S1 F1 (.inl ⟨rfl, .bl _, fun _ => rfl⟩)
    | _ => simp at he
/-- a test -/
theorem tB_run {g : Gp} {tmp : List Addr} {ow : Ow} {σ : St} {H : Hp} {env env' : Env} {s s' : Sr} {c : Bool} {K : Bool → Hp → Prop} (S : Stt g tmp ow σ H env s) (he : ev cf ea env s = some (.bl c, env', s'))
    (k : ∀ H' ow', SzOk H' → Stt g tmp ow' σ H' env' s' → Frm (Av g tmp ow) (Av g tmp ow') tmp H H' → K c H') : tB (T cf ea) σ H K := by
  refine T.weak S he fun v H1 ow1 z1 S1 F1 r1 => ?_
  cases r1
  exact ⟨c, rfl, k H1 ow1 z1 S1 F1⟩
theorem Val.mono {g : Gp} {tmp tmp' : List Addr} {ow' : Ow} {H' : Hp} {v : V} {d : D} {b c : Bool} {σ : St} {env : Env} {s : Sr} {A : Addr → Prop} {H1 : Hp} (x : Val b g tmp tmp' ow' H' v d) (h : c = true → b = true) (S : Stt g tmp' ow' σ H' env s) (F : Frm A (Av g tmp' ow') tmp H1 H') :
    ∃ tmp2, Stt g tmp2 ow' σ H' env s ∧ Frm A (Av g tmp2 ow') tmp H1 H' ∧ Val c g tmp tmp2 ow' H' v d := by
  cases c with
  | true =>
    obtain rfl := h rfl
    exact ⟨tmp', S, F, x⟩
  | false =>
    obtain ⟨S2, F2, r⟩ := x.weak S F
    exact ⟨tmp, S2, F2, .inl ⟨rfl, r, fun h => by cases h⟩⟩
end
end Rf
end

section
set_option linter.all false
set_option Elab.async false
set_option maxRecDepth 100000
namespace Rf
open PySem L2

/-! dicts: looking, storing -/
theorem kD_inj {a b : Key} (h : kD a = kD b) : a = b := by
  cases a <;> cases b <;> simp only [kD, D.int.injEq, D.str.injEq, reduceCtorEq] at h
  · rw [h]
  · rename_i x y
    have : x.cps = y.cps := Array.toList_inj.mp h
    cases x; cases y; simp_all
theorem kTD_inj {a b : List Key} (h : kTD a = kTD b) : a = b := by
  simp only [kTD, D.tup.injEq] at h
  exact List.map_inj_right (fun x y e => kD_inj e) |>.mp h
mutual
theorem same_self : ∀ d : D, D.same d d = true
  | .non => rfl
  | .bl _ => by simp [D.same]
  | .int _ => by simp [D.same]
  | .str _ => by simp [D.same]
  | .rep d => by simp [D.same, same_self d]
  | .lst xs => by simp [D.same, sameL_self xs]
  | .tup xs => by simp [D.same, sameL_self xs]
  | .dct _ xs => by simp [D.same, sameP_self xs]
  | .src => rfl
theorem sameL_self : ∀ d : List D, D.sameL d d = true
  | [] => rfl
  | x :: xs => by simp [D.sameL, same_self x, sameL_self xs]
theorem sameP_self : ∀ d : List (D × D), D.sameP d d = true
  | [] => rfl
  | (a, b) :: xs => by simp [D.sameP, same_self a, same_self b, sameP_self xs]
end
theorem same_eq {a b : D} : D.same a b = true ↔ a = b := ⟨same_iff a b, fun h => by rw [h]; exact same_self b⟩
instance : DecidableEq D := fun a b => if h : D.same a b = true then isTrue (same_iff a b h) else isFalse fun e => h (same_eq.mpr e)

section
variable {κ : Type} [DecidableEq κ] (toD : κ → D) (hinj : ∀ a b, toD a = toD b → a = b) {aS : AS} {A : Addr → Prop} {H : Hp}
include hinj
theorem look_ok (k : κ) : ∀ {kvs : List (κ × V)} {ps : List (D × D)}, kvs.map (fun p => toD p.1) = ps.map (·.1) → RepL aS A H (kvs.map (·.2)) (ps.map (·.2)) →
    (valV kvs k = none ∧ look (toD k) ps = none) ∨ ∃ v d, valV kvs k = some v ∧ look (toD k) ps = some d ∧ Rep aS A H v d
  | [], [], _, _ => .inl ⟨rfl, rfl⟩
  | [], _ :: _, e, _ => by simp at e
  | _ :: _, [], e, _ => by simp at e
  | (a, v) :: kvs, (x, d) :: ps, e, r => by
    simp only [List.map_cons, List.cons.injEq] at e
    obtain ⟨e1, e2⟩ := e
    simp only [List.map_cons] at r
    cases r with
    | cons r1 r2 =>
      subst e1
      by_cases h : a = k
      · subst h
        refine .inr ⟨v, d, by simp [valV], ?_, r1⟩
        simp [look, same_self]
      · have hn : ¬ toD a = toD k := fun z => h (hinj _ _ z)
        have hs : D.same (toD a) (toD k) = false := by
          cases q : D.same (toD a) (toD k) with
          | false => rfl
          | true => exact absurd (same_iff _ _ q) hn
        have e3 : valV ((a, v) :: kvs) k = valV kvs k := by simp [valV, h]
        have e4 : look (toD k) ((toD a, d) :: ps) = look (toD k) ps := by simp [look, hs]
        rw [e3, e4]
        exact look_ok k e2 r2
theorem put_keys (k : κ) (v : V) (d : D) : ∀ {kvs : List (κ × V)} {ps : List (D × D)}, kvs.map (fun p => toD p.1) = ps.map (·.1) → (putK kvs k v).map (fun p => toD p.1) = (put (toD k) d ps).map (·.1)
  | [], [], _ => by simp [putK, put]
  | [], _ :: _, e => by simp at e
  | _ :: _, [], e => by simp at e
  | (a, w) :: kvs, (x, c) :: ps, e => by
    simp only [List.map_cons, List.cons.injEq] at e
    obtain ⟨e1, e2⟩ := e
    subst e1
    by_cases h : a = k
    · subst h
      have e3 : put (toD a) d ((toD a, c) :: ps) = (toD a, d) :: ps := by simp [put, same_self]
      have e4 : (putK ((a, w) :: kvs) a v).map (fun p => toD p.1) = ((a, w) :: kvs).map (fun p => toD p.1) := by
        unfold putK
        rw [if_pos (by simp)]
        rw [List.map_map]
        apply List.map_congr_left
        intro p hp
        by_cases q : p.1 = a <;> simp [q]
      rw [e3, e4]
      simp [e2]
    · have hn : ¬ toD a = toD k := fun z => h (hinj _ _ z)
      have hs : D.same (toD a) (toD k) = false := by
        cases q : D.same (toD a) (toD k) with
        | false => rfl
        | true => exact absurd (same_iff _ _ q) hn
      have e3 : put (toD k) d ((toD a, c) :: ps) = (toD a, c) :: put (toD k) d ps := by simp [put, hs]
      have e4 : putK ((a, w) :: kvs) k v = (a, w) :: putK kvs k v := by
        unfold putK
        by_cases q : (kvs.any fun kv => decide (kv.1 = k)) = true
        · rw [if_pos (by simp [q]), if_pos q]; simp [h]
        · rw [if_neg (by simp [q, h]), if_neg q]; simp
      rw [e3, e4]
      simp [put_keys k v d e2]
omit hinj in
theorem put_nodup (k : κ) (v : V) : ∀ {kvs : List (κ × V)}, (kvs.map (·.1)).Nodup → ((putK kvs k v).map (·.1)).Nodup := by
  intro kvs h
  unfold putK
  split
  · rw [List.map_map]
    have : kvs.map ((fun p : κ × V => p.1) ∘ fun kv => if kv.1 = k then (kv.1, v) else kv) = kvs.map (·.1) := by
      apply List.map_congr_left
      intro p _
      by_cases q : p.1 = k <;> simp [q]
    rw [this]
    exact h
  · rename_i hn
    rw [List.map_append, List.nodup_append]
    refine ⟨h, by simp, fun a ha b hb => ?_⟩
    simp only [List.map_cons, List.map_nil, List.mem_singleton] at hb
    subst hb
    rintro rfl
    obtain ⟨p, hp, rfl⟩ := List.mem_map.mp ha
    exact hn (List.any_eq_true.mpr ⟨p, hp, by simp⟩)
/-- one place is stored: keys stand once in the model's dict only in that the first is met; all equal keys get the value -/
theorem put_vals (k : κ) (v : V) (d : D) : ∀ {kvs : List (κ × V)} {ps : List (D × D)}, (kvs.map (·.1)).Nodup → kvs.map (fun p => toD p.1) = ps.map (·.1) → RepL aS A H (kvs.map (·.2)) (ps.map (·.2)) → Rep aS A H v d →
    RepL aS A H ((putK kvs k v).map (·.2)) ((put (toD k) d ps).map (·.2))
  | [], [], _, _, _, rv => by simpa [putK, put] using RepL.cons rv .nil
  | [], _ :: _, _, e, _, _ => by simp at e
  | _ :: _, [], _, e, _, _ => by simp at e
  | (a, w) :: kvs, (x, c) :: ps, nd, e, r, rv => by
    simp only [List.map_cons, List.cons.injEq] at e
    obtain ⟨e1, e2⟩ := e
    subst e1
    simp only [List.map_cons, List.nodup_cons] at nd
    cases r with
    | cons r1 r2 =>
      by_cases h : a = k
      · subst h
        have e3 : put (toD a) d ((toD a, c) :: ps) = (toD a, d) :: ps := by simp [put, same_self]
        have e4 : putK ((a, w) :: kvs) a v = (a, v) :: kvs := by
          unfold putK
          rw [if_pos (by simp)]
          simp only [List.map_cons, if_pos]
          congr 1
          have : ∀ p ∈ kvs, (if p.1 = a then (p.1, v) else p) = p := fun p hp => by
            rw [if_neg]
            intro q
            exact nd.1 (List.mem_map.mpr ⟨p, hp, q⟩)
          calc kvs.map (fun kv => if kv.1 = a then (kv.1, v) else kv) = kvs.map id := List.map_congr_left this
            _ = kvs := by simp
        rw [e3, e4]
        exact .cons rv r2
      · have hn : ¬ toD a = toD k := fun z => h (hinj _ _ z)
        have hs : D.same (toD a) (toD k) = false := by
          cases q : D.same (toD a) (toD k) with
          | false => rfl
          | true => exact absurd (same_iff _ _ q) hn
        have e3 : put (toD k) d ((toD a, c) :: ps) = (toD a, c) :: put (toD k) d ps := by simp [put, hs]
        have e4 : putK ((a, w) :: kvs) k v = (a, w) :: putK kvs k v := by
          unfold putK
          by_cases q : (kvs.any fun kv => decide (kv.1 = k)) = true
          · rw [if_pos (by simp [q]), if_pos q]; simp [h]
          · rw [if_neg (by simp [q, h]), if_neg q]; simp
        rw [e3, e4]
        exact .cons r1 (put_vals k v d nd.2 e2 r2 rv)
theorem put_ok {k : κ} {v : V} {d : D} {kvs : List (κ × V)} {ps : List (D × D)} (h : KOk toD kvs ps) (r : RepL aS A H (kvs.map (·.2)) (ps.map (·.2))) (rv : Rep aS A H v d) :
    KOk toD (putK kvs k v) (put (toD k) d ps) ∧ RepL aS A H ((putK kvs k v).map (·.2)) ((put (toD k) d ps).map (·.2)) :=
  ⟨⟨put_keys toD hinj k v d h.1, put_nodup k v h.2⟩, put_vals toD hinj k v d h.2 h.1 r rv⟩
end
theorem dget_K {aS : AS} {A : Addr → Prop} {H : Hp} {a : Addr} {kvs : List (Key × V)} {ps : List (D × D)} {w : V} {k : D} (h : Rd H a (.dK kvs)) (e : KOk kD kvs ps) (r : RepL aS A H (kvs.map (·.2)) (ps.map (·.2))) (rk : RepT aS A H w k) (hk : keyOk false k = true) :
    ∃ o, DGet H a w o ∧ ((o = none ∧ look k ps = none) ∨ ∃ v d, o = some v ∧ look k ps = some d ∧ Rep aS A H v d) := by
  cases k <;> simp only [keyOk, Bool.false_eq_true, Bool.not_false, Bool.false_and] at hk
  rename_i i
  obtain rfl := rk.int
  refine ⟨valV kvs (.inl i), .inl ⟨kvs, .inl i, h, rfl, rfl⟩, ?_⟩
  rcases look_ok kD (fun _ _ => kD_inj) (Sum.inl i) e.1 r with ⟨h1, h2⟩ | ⟨v, d, h1, h2, h3⟩
  · exact .inl ⟨h1, h2⟩
  · exact .inr ⟨v, d, h1, h2, h3⟩
theorem ints_of_all : ∀ {ks : List D}, (ks.all fun k => match k with | .int _ => true | _ => false) = true → ∃ ns, D.intsOf ks = some ns ∧ ks = ns.map D.int
  | [], _ => ⟨[], rfl, rfl⟩
  | k :: ks, h => by
    simp only [List.all_cons, Bool.and_eq_true] at h
    obtain ⟨ns, e1, e2⟩ := ints_of_all h.2
    cases k with
    | int i => exact ⟨i :: ns, by simp [D.intsOf, e1], by rw [e2]; rfl⟩
    | _ => simp at h
theorem tupKey {aS : AS} (hfz : aS.fz = false) {A : Addr → Prop} {H : Hp} {w : V} {k : D} (rk : RepT aS A H w k) (hk : keyOk true k = true) : ∃ (b : Addr) (ns : List Int), w = .ref b ∧ k = .tup (ns.map D.int) ∧ H b = some (.tup ((ns.map Sum.inl).map kV)) ∧ kTD (ns.map Sum.inl) = k := by
  cases k <;> simp only [keyOk, Bool.false_eq_true, Bool.not_true, Bool.true_and] at hk
  obtain ⟨ns, e1, e2⟩ := ints_of_all hk
  obtain ⟨b, xs, rfl, _, hb, r⟩ := rk.tup
  rw [hfz] at hb
  have hb : H b = some (.tup xs) := hb
  refine ⟨b, ns, rfl, by rw [e2], ?_, ?_⟩
  · rw [hb, r.ints e1, List.map_map]; rfl
  · rw [e2]; simp [kTD, List.map_map]; intro a _; rfl
theorem dget_T {aS : AS} (hfz : aS.fz = false) {A : Addr → Prop} {H : Hp} {a : Addr} {kvs : List (List Key × V)} {ps : List (D × D)} {w : V} {k : D} (h : Rd H a (.dT kvs)) (e : KOk kTD kvs ps) (r : RepL aS A H (kvs.map (·.2)) (ps.map (·.2))) (rk : RepT aS A H w k) (hk : keyOk true k = true) :
    ∃ o, DGet H a w o ∧ ((o = none ∧ look k ps = none) ∨ ∃ v d, o = some v ∧ look k ps = some d ∧ Rep aS A H v d) := by
  obtain ⟨b, ns, rfl, _, hb, ek⟩ := tupKey hfz rk hk
  refine ⟨valV kvs (ns.map Sum.inl), .inr ⟨kvs, ns.map Sum.inl, b, h, rfl, hb, rfl⟩, ?_⟩
  rcases look_ok kTD (fun _ _ => kTD_inj) (ns.map Sum.inl) e.1 r with ⟨h1, h2⟩ | ⟨v, d, h1, h2, h3⟩
  · rw [ek] at h2; exact .inl ⟨h1, h2⟩
  · rw [ek] at h2; exact .inr ⟨v, d, h1, h2, h3⟩
theorem RepT.dget {aS : AS} {A : Addr → Prop} {H : Hp} {x w : V} {t : Bool} {ps : List (D × D)} {k : D} (rx : RepT aS A H x (.dct t ps)) (rk : RepT aS A H w k) (hk : keyOk t k = true) :
    ∃ a o, x = .ref a ∧ DGet H a w o ∧ ((o = none ∧ look k ps = none) ∨ ∃ v d, o = some v ∧ look k ps = some d ∧ Rep aS A H v d) := by
  cases t with
  | false =>
    obtain ⟨a, kvs, rfl, h, e, r⟩ := rx.dctK
    obtain ⟨o, h1, h2⟩ := dget_K h e r rk hk
    exact ⟨a, o, rfl, h1, h2⟩
  | true =>
    obtain ⟨hfz, a, kvs, rfl, h, e, r⟩ := rx.dctT
    obtain ⟨o, h1, h2⟩ := dget_T hfz h e r rk hk
    exact ⟨a, o, rfl, h1, h2⟩

section
variable {X : Cx} {cf : Cf} {a b c : Expr} {ea eb ec : Ex} {pos : Pos}
theorem in_dct {x y : D} {t : Bool} {ps : List (D × D)} (hy : y = .dct t ps) {b : Bool} (h : inD x y = some b) : keyOk t x = true ∧ b = (look x ps).isSome := by
  subst hy
  simp only [inD] at h
  split at h
  · cases h; exact ⟨by assumption, rfl⟩
  · cases h
theorem p_in (C : Cok X) (ha : PE X a (TO cf ea)) (hb : PE X b (TO cf eb)) : PC X .In a b (T cf (.bi (.cmp .isin) [ea, eb])) := by
  refine PC.mk' (PC.alt (pc_op (op_inA (by have := C.units; omega)) ha hb) (pc_din (by have := C.units; omega) ha hb)) fun σ H Q z hT => ?_
  obtain ⟨ds, d, h2, go⟩ := bi_open hT z
  obtain ⟨x, y, b, rfl, hc, rfl⟩ := two_cmp h2
  have hc : inD x y = some b := hc
  by_cases hy : ∃ t ps, y = .dct t ps
  · obtain ⟨t, ps, rfl⟩ := hy
    obtain ⟨hk, rfl⟩ := in_dct rfl hc
    refine .inr (go (fun vs H Q => ∃ a o, vs.getD 1 .non = .ref a ∧ DGet H a (vs.getD 0 .non) o ∧ Q (.bl o.isSome) H) fun g tmp ow env s vs H1 z1 rs R => ?_)
    obtain ⟨v, w, rfl, rv, rw_⟩ := rs.two
    obtain ⟨p, o, rfl, hg, ho⟩ := rw_.dget rv hk
    refine ⟨p, o, rfl, hg, fun z' => R.bl' ?_ z'⟩
    rcases ho with ⟨rfl, e⟩ | ⟨u, q, rfl, e, _⟩ <;> rw [e] <;> rfl
  · refine .inl (go (l2 (rInA X.K false)) fun g tmp ow env s vs H1 z1 rs R => ?_)
    obtain ⟨v, w, rfl, rv, rw_⟩ := rs.two
    exact inA_core (neg := false) rv rw_ (fun t kvs e => hy ⟨t, kvs, e⟩) hc R
theorem p_notin (C : Cok X) (ha : PE X a (TO cf ea)) (hb : PE X b (TO cf eb)) : PC X .NotIn a b (T cf (.bi (.cmp .notin) [ea, eb])) := by
  refine PC.mk' (PC.alt (pc_op (op_notInA (by have := C.units; omega)) ha hb) (pc_dnotin (by have := C.units; omega) ha hb)) fun σ H Q z hT => ?_
  obtain ⟨ds, d, h2, go⟩ := bi_open hT z
  obtain ⟨x, y, b, rfl, hc, rfl⟩ := two_cmp h2
  have hc1 : (inD x y).map (!·) = some b := hc
  simp only [Option.map_eq_some_iff] at hc1
  obtain ⟨b, hc2, rfl⟩ := hc1
  by_cases hy : ∃ t ps, y = .dct t ps
  · obtain ⟨t, ps, rfl⟩ := hy
    obtain ⟨hk, rfl⟩ := in_dct rfl hc2
    refine .inr (go (fun vs H Q => ∃ a o, vs.getD 1 .non = .ref a ∧ DGet H a (vs.getD 0 .non) o ∧ Q (.bl (!o.isSome)) H) fun g tmp ow env s vs H1 z1 rs R => ?_)
    obtain ⟨v, w, rfl, rv, rw_⟩ := rs.two
    obtain ⟨p, o, rfl, hg, ho⟩ := rw_.dget rv hk
    refine ⟨p, o, rfl, hg, fun z' => R.bl' ?_ z'⟩
    rcases ho with ⟨rfl, e⟩ | ⟨u, q, rfl, e, _⟩ <;> rw [e] <;> rfl
  · refine .inl (go (l2 (rInA X.K true)) fun g tmp ow env s vs H1 z1 rs R => ?_)
    obtain ⟨v, w, rfl, rv, rw_⟩ := rs.two
    exact inA_core (neg := true) rv rw_ (fun t kvs e => hy ⟨t, kvs, e⟩) hc2 R
/-- is None -/
theorem p_isnon (ha : PE X a (TO cf ea)) (hb : PE X b (TO cf eb)) : PC X .Is a b (T cf (.bi (.cmp .isnon) [ea, eb])) := by
  refine p_op2 (pc_op op_isN ha hb) ?_
  intro f g tmp ow σ env s ds d vs H Q hf z rs h R
  obtain ⟨x, y, b, rfl, hc, rfl⟩ := two_cmp h
  obtain ⟨v, w, rfl, rv, rw_⟩ := rs.two
  cases y <;> simp only [cmpD] at hc <;> first | cases hc | skip
  refine ⟨rw_.non, fun z' => R.bl' ?_ z'⟩
  show decide (v = V.non) = _
  rcases rv with rv | ⟨p, rfl, rv⟩
  · cases rv <;> first | rfl | simp
  · cases rv <;> simp
theorem p_notnon (ha : PE X a (TO cf ea)) (hb : PE X b (TO cf eb)) : PC X .IsNot a b (T cf (.bi (.cmp .notnon) [ea, eb])) := by
  refine p_op2 (pc_op op_notN ha hb) ?_
  intro f g tmp ow σ env s ds d vs H Q hf z rs h R
  obtain ⟨x, y, b, rfl, hc, rfl⟩ := two_cmp h
  obtain ⟨v, w, rfl, rv, rw_⟩ := rs.two
  cases y <;> simp only [cmpD] at hc <;> first | cases hc | skip
  refine ⟨rw_.non, fun z' => R.bl' ?_ z'⟩
  show (!decide (v = V.non)) = _
  rcases rv with rv | ⟨p, rfl, rv⟩
  · cases rv <;> first | rfl | simp
  · cases rv <;> simp
/-- items -/
theorem place_atI {α : Type} (xs : List α) (i : Int) : atI xs i = (place xs.length i).bind fun j => xs[j]? := rfl
theorem idx_lst {aS : AS} {A : Addr → Prop} {H : Hp} {us : List V} {xs : List D} {i : Int} {d : D} (r : RepL aS A H us xs) (h : ((place xs.length i).bind fun j => xs[j]?) = some d) : ∃ v, atI us i = some v ∧ Rep aS A H v d := by
  rw [Option.bind_eq_some_iff] at h
  obtain ⟨j, h1, h2⟩ := h
  obtain ⟨v, h3, r'⟩ := r.get h2
  refine ⟨v, ?_, r'⟩
  rw [place_atI, r.length, h1]
  exact h3
theorem r_idx (C : Cok X) (ha : PE X a (TO cf ea)) (hb : PE X b (TO cf eb)) (hs : PlainIx b) (hs2 : NoSl b) : PE X (.Subscript a b pos) (T cf (.bi .idx [ea, eb])) := by
  refine PE.mk' (PE.alt (pe_ix ix_seq ha hb hs) (pe_dget (by have := C.units; omega) ha hb hs2)) fun σ H Q z hT => ?_
  obtain ⟨ds, d, h2, go⟩ := bi_open hT z
  match ds, h2 with
  | [x, y], h2 =>
    have h2 : idxD x y = some d := h2
    by_cases hy : ∃ t ps, x = .dct t ps
    · obtain ⟨t, ps, rfl⟩ := hy
      simp only [idxD] at h2
      split at h2
      · rename_i hk
        refine .inr (go (fun vs H Q => ∃ a v, vs.getD 0 .non = .ref a ∧ DGet H a (vs.getD 1 .non) (some v) ∧ Q v H) fun g tmp ow env s vs H1 z1 rs R => ?_)
        obtain ⟨v, w, rfl, rv, rw_⟩ := rs.two
        obtain ⟨p, o, rfl, hg, ho⟩ := rv.dget rw_ hk
        rcases ho with ⟨rfl, e⟩ | ⟨u, q, rfl, e, ru⟩
        · rw [e] at h2; cases h2
        · rw [e] at h2; cases h2
          exact ⟨p, u, rfl, hg, fun z' => R.val ru (fun h => by cases h) z'⟩
      · cases h2
    · refine .inl (go (l2 (rIx X.K)) fun g tmp ow env s vs H1 z1 rs R => ?_)
      obtain ⟨v, w, rfl, rv, rw_⟩ := rs.two
      cases x <;> cases y <;> simp only [idxD] at h2 <;> first | cases h2 | exact absurd ⟨_, _, rfl⟩ hy | skip
      · obtain ⟨p, us, rfl, hp, r⟩ := rv.lst
        obtain ⟨u, e, ru⟩ := idx_lst r h2
        exact .inl ⟨p, us, _, u, rfl, rw_.int, SqL.of hp, e, fun z' => R.val ru (fun h => by cases h) z'⟩
      · obtain ⟨p, us, rfl, _, hp, r⟩ := rv.tup
        obtain ⟨u, e, ru⟩ := idx_lst r h2
        exact .inr (.inl ⟨p, us, _, u, rfl, rw_.int, hp.sq, e, fun z' => R.val ru (fun h => by cases h) z'⟩)
end
end Rf
end

section
set_option linter.all false
set_option Elab.async false
set_option maxRecDepth 100000
namespace Rf
open PySem L2

/-! arguments, displays -/
def TA' (cf : Cf) (es : List Ex) : TA := fun σ H Q => ∃ g tmp ow env s ds env' s', Stt g tmp ow σ H env s ∧ evs cf es env s = some (ds, env', s') ∧
  ∀ vs H' ow', SzOk H' → Stt g tmp ow' σ H' env' s' → Frm (Av g tmp ow) (Av g tmp ow') tmp H H' → RepL g.aS (Av g tmp ow') H' vs ds → Q vs H'
section
variable {X : Cx} {cf : Cf} {a b c e : Expr} {ea eb ec x : Ex} {pos p : Pos} {es : List Expr} {xs : List Ex}
theorem PA.mk' {t t' : TA} (h : PA X es t) (k : ∀ σ H Q, SzOk H → t' σ H Q → t σ H (fun v H1 => SzOk H1 → Q v H1)) : PA X es t' :=
  ⟨fun pos pins s σ H Q I hw => thn (h.run pos pins s σ H _ I (k σ H Q (szOk_of I) hw)) fun u s' ⟨v, H', I', r, q⟩ => ⟨v, H', I', r, q (szOk_of I')⟩⟩
theorem a_nil : PA X [] (TA' cf []) := PA.mk' pa_nil fun σ H Q z ⟨g, tmp, ow, env, s, ds, env', s', S, he, k⟩ => by
  simp only [evs, Option.some.injEq, Prod.mk.injEq] at he
  obtain ⟨rfl, rfl, rfl⟩ := he
  exact fun z' => k [] H ow z' S .refl .nil
theorem a_cons (he : PE X e (T cf x)) (hr : PA X es (TA' cf xs)) (hx : ∀ l, x ≠ .star l := by intro _ h; cases h) (hs : starEach (e :: es) X.env = (false, eval e X.env) :: starEach es X.env := by rfl) : PA X (e :: es) (TA' cf (x :: xs)) :=
  PA.mk' (pa_cons he hr hs) fun σ H Q z ⟨g, tmp, ow, env, s, ds, env', s', S, hev, k⟩ => by
    have hev' : (match ev cf x env s with
          | some (d, env, s) => match evs cf xs env s with
            | some (ds, env, s) => some (d :: ds, env, s)
            | none => none
          | none => none) = some (ds, env', s') := by
      cases x <;> first | exact hev | exact absurd rfl (hx _)
    cases h1 : ev cf x env s with
    | none => rw [h1] at hev'; cases hev'
    | some q =>
      obtain ⟨d, env1, s1⟩ := q
      rw [h1] at hev'
      dsimp only at hev'
      cases h2 : evs cf xs env1 s1 with
      | none => rw [h2] at hev'; cases hev'
      | some q =>
        obtain ⟨ds1, env2, s2⟩ := q
        rw [h2] at hev'
        simp only [Option.some.injEq, Prod.mk.injEq] at hev'
        obtain ⟨rfl, rfl, rfl⟩ := hev'
        refine T.weak S h1 fun v H1 ow1 z1 S1 F1 r1 => ?_
        refine ⟨g, tmp, ow1, env1, s1, ds1, env2, s2, S1, h2, fun vs H' ow' z' S' F r => fun z2 => ?_⟩
        exact k _ H' ow' z' S' (F1.trans F fun _ h => h) (.cons (r1.frm F) r)
theorem evOs_cons {cf : Cf} {x : Ex} {xs : List Ex} {env env' : Env} {s s' : Sr} {ds : List D} (h : evOs cf (x :: xs) env s = some (ds, env', s')) : ∃ d ds1 env1 s1 env2 s2, ds = d :: ds1 ∧ evOs cf xs env1 s1 = some (ds1, env2, s2) := by
  by_cases hb : ∃ i, x = .bor i
  · obtain ⟨i, rfl⟩ := hb
    simp only [evOs] at h
    split at h
    · cases h
    · cases h1 : evOs cf xs env s with
      | none => rw [h1] at h; cases h
      | some q =>
        obtain ⟨ds1, env1, s1⟩ := q
        rw [h1] at h
        dsimp only at h
        split at h
        · simp only [Option.some.injEq, Prod.mk.injEq] at h
          obtain ⟨rfl, rfl, rfl⟩ := h
          exact ⟨_, ds1, _, _, _, _, rfl, h1⟩
        · cases h
  · have h' : (match ev cf x env s with
          | some (d, env, s) => match evOs cf xs env s with
            | some (ds, env, s) => some (d :: ds, env, s)
            | none => none
          | none => none) = some (ds, env', s') := by
      cases x <;> first | exact h | exact absurd ⟨_, rfl⟩ hb
    cases h1 : ev cf x env s with
    | none => rw [h1] at h'; cases h'
    | some q =>
      obtain ⟨d, env1, s1⟩ := q
      rw [h1] at h'
      dsimp only at h'
      cases h2 : evOs cf xs env1 s1 with
      | none => rw [h2] at h'; cases h'
      | some q =>
        obtain ⟨ds1, env2, s2⟩ := q
        rw [h2] at h'
        simp only [Option.some.injEq, Prod.mk.injEq] at h'
        obtain ⟨rfl, rfl, rfl⟩ := h'
        exact ⟨_, ds1, _, _, _, _, rfl, h2⟩
theorem evOs_one {cf : Cf} {x : Ex} {env env' : Env} {s s' : Sr} {ds : List D} (h : evOs cf [x] env s = some (ds, env', s')) : ∃ d, ds = [d] := by
  obtain ⟨d, ds1, env1, s1, env2, s2, e, h2⟩ := evOs_cons h
  subst e
  have h3 : some (([] : List D), env1, s1) = some (ds1, env2, s2) := h2
  simp only [Option.some.injEq, Prod.mk.injEq] at h3
  obtain ⟨rfl, _, _⟩ := h3
  exact ⟨d, rfl⟩
theorem items_split {d : D} {ys : List D} (h : D.items d = some ys) : d = .lst ys ∨ d = .tup ys := by
  cases d <;> simp only [D.items, Option.some.injEq, reduceCtorEq] at h <;> subst h
  · exact .inl rfl
  · exact .inr rfl
theorem a_star (he : PE X e (TO cf x)) (hr : PA X es (TA' cf xs)) (hs : starEach (.Starred e p :: es) X.env = (true, eval e X.env) :: starEach es X.env := by rfl) : PA X (.Starred e p :: es) (TA' cf (.star [x] :: xs)) :=
  PA.mk' (StX.pa_star he hr hs) fun σ H Q z ⟨g, tmp, ow, env, s, ds, env', s', S, hev, k⟩ => by
    simp only [evs] at hev
    cases h1 : evOs cf [x] env s with
    | none => rw [h1] at hev; cases hev
    | some q =>
      obtain ⟨ds0, env1, s1⟩ := q
      obtain ⟨d, rfl⟩ := evOs_one h1
      rw [h1] at hev
      dsimp only at hev
      cases h2 : D.items d with
      | none => rw [h2] at hev; cases hev
      | some ys =>
        rw [h2] at hev
        dsimp only at hev
        cases h3 : evs cf xs env1 s1 with
        | none => rw [h3] at hev; cases hev
        | some q =>
          obtain ⟨ds1, env2, s2⟩ := q
          rw [h3] at hev
          simp only [Option.some.injEq, Prod.mk.injEq] at hev
          obtain ⟨rfl, rfl, rfl⟩ := hev
          show TOs cf [x] σ H fun vs H1 => ∃ p us, vs.getD 0 .non = .ref p ∧ (SqT X.K H1 p us ∨ SqL X.K H1 p us) ∧ TA' cf xs σ H1 fun ws H2 => SzOk H2 → Q (us ++ ws) H2
          refine ops_run S h1 z fun vs H1 ow1 z1 S1 F1 rs => ?_
          obtain ⟨v, rfl, rv⟩ := rs.one
          have fin : ∀ us, RepL g.aS (Av g tmp ow1) H1 us ys → TA' cf xs σ H1 fun ws H2 => SzOk H2 → Q (us ++ ws) H2 := fun us ru =>
            ⟨g, tmp, ow1, env1, s1, ds1, env2, s2, S1, h3, fun vs H' ow' z' S' F r => fun z2 => k _ H' ow' z' S' (F1.trans F fun _ h => h) ((ru.frm F).append r)⟩
          rcases items_split h2 with rfl | rfl
          · obtain ⟨p, us, rfl, hp, ru⟩ := rv.lst
            exact ⟨p, us, rfl, .inr (SqL.of hp), fin us ru⟩
          · obtain ⟨p, us, rfl, _, hp, ru⟩ := rv.tup
            exact ⟨p, us, rfl, .inl hp.sq, fin us ru⟩
theorem r_tup {k1 : Nat} (h : PA X es (TA' cf xs)) : PE X (.Tuple es k1 pos) (T cf (.tup xs)) :=
  PE.mk' (pe_tupF h) fun σ H Q z ⟨g, tmp, ow, env, s, d, env', s', S, he, k⟩ => by
    simp only [ev] at he
    cases h1 : evs cf xs env s with
    | none => rw [h1] at he; cases he
    | some q =>
      obtain ⟨ds, env1, s1⟩ := q
      rw [h1] at he
      dsimp only at he
      split at he
      · rename_i hl
        simp only [Option.some.injEq, Prod.mk.injEq] at he
        obtain ⟨rfl, rfl, rfl⟩ := he
        refine ⟨g, tmp, ow, env, s, ds, env1, s1, S, h1, fun vs H1 ow1 z1 S1 F1 r => ⟨by rw [r.length]; exact hl, g.aS.fz, fun p o hd hp z2 => ?_⟩⟩
        have R : Res (fr (.tup xs)) g tmp ow1 σ H1 env1 s1 (.tup ds) Q := ⟨S1, fun v H2 tmp2 z3 S2 F2 x2 => k v H2 tmp2 ow1 z3 S2 (F1.trans F2 fun _ h => h) x2⟩
        exact R.tup r hd hp z2
      · cases he
theorem r_lst (h : PA X es (TA' cf xs)) : PE X (.List es pos) (T cf (.lst xs)) :=
  PE.mk' (pe_lst h) fun σ H Q z ⟨g, tmp, ow, env, s, d, env', s', S, he, k⟩ => by
    simp only [ev] at he
    cases h1 : evs cf xs env s with
    | none => rw [h1] at he; cases he
    | some q =>
      obtain ⟨ds, env1, s1⟩ := q
      rw [h1] at he
      dsimp only at he
      split at he
      · rename_i hl
        simp only [Option.some.injEq, Prod.mk.injEq] at he
        obtain ⟨rfl, rfl, rfl⟩ := he
        refine ⟨g, tmp, ow, env, s, ds, env1, s1, S, h1, fun vs H1 ow1 z1 S1 F1 r => ⟨by rw [r.length]; exact hl, fun p hp z2 => ?_⟩⟩
        have R : Res true g tmp ow1 σ H1 env1 s1 (.lst ds) Q := ⟨S1, fun v H2 tmp2 z3 S2 F2 x2 => k v H2 tmp2 ow1 z3 S2 (F1.trans F2 fun _ h => h) x2⟩
        exact R.lst r hp z2
      · cases he
theorem r_dnewK : PE X (.Dict [] [] pos) (T cf (.dnew false)) :=
  PE.mk' pe_dnewK fun σ H Q z ⟨g, tmp, ow, env, s, d, env', s', S, he, k⟩ => by
    simp only [ev, Bool.false_and, Bool.false_eq_true, if_false, Option.some.injEq, Prod.mk.injEq] at he
    obtain ⟨rfl, rfl, rfl⟩ := he
    intro p hp z2
    have R : Res true g tmp ow σ H env s (.dct false []) Q := ⟨S, fun v H2 tmp2 z3 S2 F2 x2 => k v H2 tmp2 ow z3 S2 F2 x2⟩
    exact R.dctK (kvs := []) ⟨rfl, List.nodup_nil⟩ .nil hp z2
theorem r_dnewT : PE X (.Dict [] [] pos) (T cf (.dnew true)) :=
  PE.mk' pe_dnewT fun σ H Q z ⟨g, tmp, ow, env, s, d, env', s', S, he, k⟩ => by
    simp only [ev, Bool.true_and] at he
    split at he
    · cases he
    rename_i hfz
    have hfz : g.aS.fz = false := by rw [← S.src.fz]; simpa using hfz
    simp only [Option.some.injEq, Prod.mk.injEq] at he
    obtain ⟨rfl, rfl, rfl⟩ := he
    intro p hp z2
    have R : Res true g tmp ow σ H env s (.dct true []) Q := ⟨S, fun v H2 tmp2 z3 S2 F2 x2 => k v H2 tmp2 ow z3 S2 F2 x2⟩
    exact R.dctT hfz (kvs := []) ⟨rfl, List.nodup_nil⟩ .nil hp z2

/-! slices -/
theorem cutL_V {aS : AS} {A : Addr → Prop} {H : Hp} {us : List V} {ds : List D} (r : RepL aS A H us ds) (lo hi : Option Int) : RepL aS A H (cutV us lo hi) (cutL ds lo hi) := by
  have e : ∀ n d o, cutAt n d o = HT.sIx n d o := fun n d o => by cases o <;> rfl
  unfold cutV cutL
  rw [e, e, r.length]
  exact (r.drop _).take _
theorem cut_whole (xs : List D) (lo hi : Option Int) (h1 : HT.sIx xs.length 0 lo = 0) (h2 : HT.sIx xs.length xs.length hi = xs.length) : cutL xs lo hi = xs := by
  have e : ∀ n d o, cutAt n d o = HT.sIx n d o := fun n d o => by cases o <;> rfl
  unfold cutL
  rw [e, e, h1, h2]
  simp
def rSl (K : PySem.W.Frag) : V → Option Int → Option Int → Hp → VK → Prop := fun x lo hi H Q => rSlL K x lo hi H Q ∨ rSlF K x lo hi H Q
theorem sl_any : L2.SlR X (rSl X.K) := SlR.alt sl_list sl_tupF
/-- the kind of a part -/
def tB' (cf : Cf) (b : Bool) (e : Ex) : L2.TO := match b with
  | true => tPart (T cf e)
  | false => tNoPart
theorem po_in (h : PE X e (T cf x)) : PO X (some e) (tB' cf true x) := po_some h
theorem po_out : PO X none (tB' cf false .non) := po_none
theorem part_run {bb : Bool} {g : Gp} {tmp : List Addr} {ow : Ow} {σ : St} {H : Hp} {env env' : Env} {s s' : Sr} {d : D} {o : Option Int} {K : Option Int → Hp → Prop} (S : Stt g tmp ow σ H env s) (z : SzOk H) (he : ev cf x env s = some (d, env', s')) (hp : partD bb d = some o) (hn : bb = false → x = .non)
    (k : ∀ H' ow', SzOk H' → Stt g tmp ow' σ H' env' s' → Frm (Av g tmp ow) (Av g tmp ow') tmp H H' → K o H') : tB' cf bb x σ H K := by
  cases bb with
  | true =>
    refine T.weak S he fun v H1 ow1 z1 S1 F1 r => ?_
    unfold partD at hp
    split at hp
    · cases hp
      cases r
      exact ⟨_, rfl, k H1 ow1 z1 S1 F1⟩
    · rename_i h; cases h
    · cases hp
  | false =>
    obtain rfl := hn rfl
    simp only [ev, Option.some.injEq, Prod.mk.injEq] at he
    obtain ⟨rfl, rfl, rfl⟩ := he
    cases hp
    exact k H ow z S .refl
def nob : Ex → Bool
  | .bor _ => false
  | _ => true
theorem evOs_nob {x : Ex} {xs : List Ex} {env env' : Env} {s s' : Sr} {ds : List D} (hx : nob x = true) (h : evOs cf (x :: xs) env s = some (ds, env', s')) : ∃ d ds1 env1 s1, ds = d :: ds1 ∧ ev cf x env s = some (d, env1, s1) ∧ evOs cf xs env1 s1 = some (ds1, env', s') := by
  have h' : (match ev cf x env s with
          | some (d, env, s) => match evOs cf xs env s with
            | some (ds, env, s) => some (d :: ds, env, s)
            | none => none
          | none => none) = some (ds, env', s') := by
    cases x <;> first | exact h | simp [nob] at hx
  cases h1 : ev cf x env s with
  | none => rw [h1] at h'; cases h'
  | some q =>
    obtain ⟨d, env1, s1⟩ := q
    rw [h1] at h'
    dsimp only at h'
    cases h2 : evOs cf xs env1 s1 with
    | none => rw [h2] at h'; cases h'
    | some q =>
      obtain ⟨ds1, env2, s2⟩ := q
      rw [h2] at h'
      simp only [Option.some.injEq, Prod.mk.injEq] at h'
      obtain ⟨rfl, rfl, rfl⟩ := h'
      exact ⟨_, _, _, _, rfl, rfl, h2⟩
/-- one operand, then others by hand: its look-up at the end -/
theorem op_then {x : Ex} {xs : List Ex} {g : Gp} {tmp : List Addr} {ow : Ow} {σ : St} {H : Hp} {env env' : Env} {s s' : Sr} {d : D} {ds : List D} {K : V → Hp → Prop} (S : Stt g tmp ow σ H env s) (z : SzOk H) (h : evOs cf (x :: xs) env s = some (d :: ds, env', s'))
    (k : ∀ v H1 ow1 env1 s1, SzOk H1 → Stt g tmp ow1 σ H1 env1 s1 → Frm (Av g tmp ow) (Av g tmp ow1) tmp H H1 → evOs cf xs env1 s1 = some (ds, env', s') →
      (∀ H2 ow2, Stt g tmp ow2 σ H2 env' s' → Frm (Av g tmp ow1) (Av g tmp ow2) tmp H1 H2 → RepT g.aS (Av g tmp ow2) H2 v d) → K v H1) : TO cf x σ H K := by
  by_cases hb : ∃ i, x = .bor i
  · obtain ⟨i, rfl⟩ := hb
    simp only [evOs] at h
    cases h0 : rd env i with
    | none => rw [h0] at h; cases h
    | some d0 =>
      rw [h0] at h
      dsimp only at h
      cases h1 : evOs cf xs env s with
      | none => rw [h1] at h; cases h
      | some q =>
        obtain ⟨ds1, env1, s1⟩ := q
        rw [h1] at h
        dsimp only at h
        cases h2 : rd env1 i with
        | none => rw [h2] at h; cases h
        | some d1 =>
          rw [h2] at h
          simp only [Option.some.injEq, Prod.mk.injEq, List.cons.injEq] at h
          obtain ⟨⟨rfl, rfl⟩, rfl, rfl⟩ := h
          obtain ⟨v, ev, _⟩ := S.rd h0
          refine ⟨v, ev, k v H ow env s z S .refl h1 fun H2 ow2 S2 F2 => ?_⟩
          obtain ⟨v', ev', r'⟩ := S2.rd h2
          rw [ev] at ev'
          cases ev'
          exact r'
  · have hn : nob x = true := by cases x <;> first | rfl | exact absurd ⟨_, rfl⟩ hb
    have ht : TO cf x = T cf x := by cases x <;> first | rfl | exact absurd ⟨_, rfl⟩ hb
    obtain ⟨d1, ds1, env1, s1, e, h1, h2⟩ := evOs_nob hn h
    cases e
    rw [ht]
    exact T.weak S h1 fun v H1 ow1 z1 S1 F1 r1 => k v H1 ow1 env1 s1 z1 S1 F1 h2 fun H2 ow2 S2 F2 => .inl (r1.frm F2)
theorem three_slc {hl hh : Bool} {ds : List D} {d : D} (h : biD (.slc hl hh) ds = some d) : ∃ x y w, ds = [x, y, w] ∧ slcD hl hh x y w = some d := by
  match ds, h with
  | [x, y, w], h => exact ⟨x, y, w, rfl, h⟩
theorem r_slc {hl hh : Bool} {el eh : Ex} {lo hi : Option Expr} {p2 : Pos} (ha : PE X a (TO cf ea)) (h1 : PO X lo (tB' cf hl el)) (h2 : PO X hi (tB' cf hh eh)) (n1 : nob el = true := by rfl) (n2 : nob eh = true := by rfl) (m1 : hl = false → el = .non := by first | (intro h; cases h; done) | exact fun _ => rfl) (m2 : hh = false → eh = .non := by first | (intro h; cases h; done) | exact fun _ => rfl) :
    PE X (.Subscript a (.Slice lo hi none p2) pos) (T cf (.bi (.slc hl hh) [ea, el, eh])) :=
  PE.mk' (pe_slice (r := rSl X.K) sl_any ha h1 h2) fun σ H Q z ⟨g, tmp, ow, env, s, d, env', s', S, he, k⟩ => by
    obtain ⟨ds, he1, he2⟩ := bi_split he
    obtain ⟨x, y, w, rfl, hs⟩ := three_slc he2
    have hs' : ∃ o1 o2, partD hl y = some o1 ∧ partD hh w = some o2 ∧ ((∃ xs, x = .lst xs ∧ d = .lst (cutL xs o1 o2)) ∨ ∃ xs, x = .tup xs ∧ d = .tup (cutL xs o1 o2)) := by
      unfold slcD at hs
      split at hs
      · rename_i o1 o2 e1 e2
        refine ⟨o1, o2, e1, e2, ?_⟩
        split at hs
        · cases hs; exact .inl ⟨_, rfl, rfl⟩
        · cases hs; exact .inr ⟨_, rfl, rfl⟩
        · cases hs
      · cases hs
    obtain ⟨o1, o2, p1, p2, hd⟩ := hs'
    refine op_then S z he1 fun v H1 ow1 env1 s1 z1 S1 F1 e1 look => ?_
    obtain ⟨y', ds1, env2, s2, q, e2, e3⟩ := evOs_nob n1 e1
    cases q
    obtain ⟨w', ds2, env3, s3, q, e4, e5⟩ := evOs_nob n2 e3
    cases q
    have e5 : some (([] : List D), env3, s3) = some (([] : List D), env', s') := e5
    simp only [Option.some.injEq, Prod.mk.injEq, true_and] at e5
    obtain ⟨rfl, rfl⟩ := e5
    refine part_run S1 z1 e2 p1 m1 fun H2 ow2 z2 S2 F2 => part_run S2 z2 e4 p2 m2 fun H3 ow3 z3 S3 F3 => ?_
    have F23 := F2.trans F3 fun _ h => h
    have F := F1.trans F23 fun _ h => h
    have rv := look H3 ow3 S3 F23
    have R : Res true g tmp ow3 σ H3 env3 s3 d Q := ⟨S3, fun v H4 tmp2 z4 S4 F4 x4 => k v H4 tmp2 ow3 z4 S4 (F.trans F4 fun _ h => h) x4⟩
    rcases hd with ⟨xs, rfl, rfl⟩ | ⟨xs, rfl, rfl⟩
    · obtain ⟨p, us, rfl, hp, r⟩ := rv.lst
      exact .inl ⟨p, us, rfl, SqL.of hp, fun t ht z' => R.lst (cutL_V r _ _) ht z'⟩
    · obtain ⟨p, us, rfl, np, hp, r⟩ := rv.tup
      refine .inr ⟨g.aS.fz, p, us, rfl, hp.sq, fun ⟨h1, h2⟩ z' => ?_, fun _ t o hd ht z' => R.tup (cutL_V r _ _) hd ht z'⟩
      rw [r.length] at h1 h2
      rw [cut_whole _ _ _ h1 h2] at R
      exact R.val (.tup np hp r) (fun _ => rfl) z'
end
end Rf
end

section
set_option linter.all false
set_option Elab.async false
set_option maxRecDepth 100000
namespace Rf
open PySem L2

def CallSound (o : Bi) (r : List V → Hp → VK → Prop) : Prop := ∀ {f : Bool} {g : Gp} {tmp : List Addr} {ow : Ow} {σ : St} {env : Env} {s : Sr} {ds : List D} {d : D} {vs : List V} {H : Hp} {Q : VK}, (f = fr (.bi o [])) → SzOk H →
  RepTL g.aS (Av g tmp ow) H vs ds → biD o ds = some d → Res f g tmp ow σ H env s d Q → r vs H (fun v H2 => SzOk H2 → Q v H2)
section
variable {X : Cx} {cf : Cf} {a b c e : Expr} {ea eb ec x : Ex} {pos p : Pos} {es : List Expr} {xs : List Ex} {o : Bi} {r : List V → Hp → VK → Prop}
/-- a built-in's call -/
theorem r_call (h : PE X e (tCB r (TOs cf xs))) (hs : CallSound o r) : PE X e (T cf (.bi o xs)) :=
  PE.mk' h fun σ H Q z hT => bi_run hT z fun g tmp ow env s ds d vs H1 z1 rs h2 R => hs (fr_bi _ _) z1 rs h2 R
theorem o_nil : PA X [] (TOs cf []) := pa_nil
theorem o_cons (he : PE X e (TO cf x)) (hr : PA X es (TOs cf xs)) (hs : starEach (e :: es) X.env = (false, eval e X.env) :: starEach es X.env := by rfl) : PA X (e :: es) (TOs cf (x :: xs)) := pa_cons he hr hs

theorem len_sound {K : PySem.W.Frag} : CallSound .len (fun xs H Q => ∃ x n, xs = [x] ∧ LenV K x H n ∧ Q (.int n) H) := by
  intro f g tmp ow σ env s ds d vs H Q hf z rs h R
  match ds, h with
  | [.lst xs], h =>
    cases h
    obtain ⟨v, rfl, rv⟩ := rs.one
    obtain ⟨p, us, rfl, hp, r⟩ := rv.lst
    exact ⟨_, us.length, rfl, .inl ⟨us, SqL.of hp, rfl⟩, fun z' => by rw [r.length]; exact R.int z'⟩
  | [.tup xs], h =>
    cases h
    obtain ⟨v, rfl, rv⟩ := rs.one
    obtain ⟨p, us, rfl, _, hp, r⟩ := rv.tup
    exact ⟨_, us.length, rfl, .inr ⟨us, hp.sq, rfl⟩, fun z' => by rw [r.length]; exact R.int z'⟩
theorem abs_sound : CallSound .abs (fun xs H Q => ∃ i, xs = [.int i] ∧ Q (.int (if i < 0 then -i else i)) H) := by
  intro f g tmp ow σ env s ds d vs H Q hf z rs h R
  match ds, h with
  | [.int i], h =>
    cases h
    obtain ⟨v, rfl, rv⟩ := rs.one
    obtain rfl := rv.int
    exact ⟨i, rfl, fun z' => R.int z'⟩
theorem toint_sound : CallSound .toint (fun xs H Q => (∃ i, xs = [.int i] ∧ Q (.int i) H) ∨ ∃ k, xs = [.bl k] ∧ Q (.int (if k then 1 else 0)) H) := by
  intro f g tmp ow σ env s ds d vs H Q hf z rs h R
  match ds, h with
  | [.int i], h =>
    cases h
    obtain ⟨v, rfl, rv⟩ := rs.one
    obtain rfl := rv.int
    exact .inl ⟨i, rfl, fun z' => R.int z'⟩
  | [.bl i], h =>
    cases h
    obtain ⟨v, rfl, rv⟩ := rs.one
    obtain rfl := rv.bl
    exact .inr ⟨i, rfl, fun z' => R.int z'⟩
theorem max2_sound : CallSound .max2 (fun xs H Q => ∃ i j, xs = [.int i, .int j] ∧ Q (.int (if j > i then j else i)) H) := by
  intro f g tmp ow σ env s ds d vs H Q hf z rs h R
  match ds, h with
  | [.int i, .int j], h =>
    cases h
    obtain ⟨v, w, rfl, rv, rw_⟩ := rs.two
    obtain rfl := rv.int
    obtain rfl := rw_.int
    exact ⟨i, j, rfl, fun z' => R.int z'⟩
theorem min2_sound : CallSound .min2 (fun xs H Q => ∃ i j, xs = [.int i, .int j] ∧ Q (.int (if j < i then j else i)) H) := by
  intro f g tmp ow σ env s ds d vs H Q hf z rs h R
  match ds, h with
  | [.int i, .int j], h =>
    cases h
    obtain ⟨v, w, rfl, rv, rw_⟩ := rs.two
    obtain rfl := rv.int
    obtain rfl := rw_.int
    exact ⟨i, j, rfl, fun z' => R.int z'⟩
theorem totup_sound {K : PySem.W.Frag} : CallSound .totup (rTupF K) := by
  intro f g tmp ow σ env s ds d vs H Q hf z rs h R
  match ds, h with
  | [.lst xs], h =>
    cases h
    obtain ⟨v, rfl, rv⟩ := rs.one
    obtain ⟨p, us, rfl, hp, r⟩ := rv.lst
    exact ⟨g.aS.fz, p, us, rfl, .inl ⟨SqL.of hp, fun t o hd ht z' => R.tup r hd ht z'⟩⟩
  | [.tup xs], h =>
    cases h
    obtain ⟨v, rfl, rv⟩ := rs.one
    obtain ⟨p, us, rfl, np, hp, r⟩ := rv.tup
    exact ⟨g.aS.fz, p, us, rfl, .inr ⟨hp.sq, fun z' => R.val (.tup np hp r) (fun _ => rfl) z'⟩⟩
theorem tolst_sound {K : PySem.W.Frag} : CallSound .tolst (fun xs H Q => ∃ p ys, xs = [.ref p] ∧ (SqL K H p ys ∨ SqT K H p ys) ∧ ∀ l, H l = none → Q (.ref l) (upd H l (.lst ys))) := by
  intro f g tmp ow σ env s ds d vs H Q hf z rs h R
  have hf : f = true := hf
  subst hf
  match ds, h with
  | [.lst xs], h =>
    cases h
    obtain ⟨v, rfl, rv⟩ := rs.one
    obtain ⟨p, us, rfl, hp, r⟩ := rv.lst
    exact ⟨p, us, rfl, .inl (SqL.of hp), fun t ht z' => R.lst r ht z'⟩
  | [.tup xs], h =>
    cases h
    obtain ⟨v, rfl, rv⟩ := rs.one
    obtain ⟨p, us, rfl, _, hp, r⟩ := rv.tup
    exact ⟨p, us, rfl, .inr (hp.sq), fun t ht z' => R.lst r ht z'⟩
theorem sum_sound {K : PySem.W.Frag} : CallSound .sum (rSum K) := by
  intro f g tmp ow σ env s ds d vs H Q hf z rs h R
  match ds, h with
  | [.lst xs], h =>
    have h : ((D.intsOf xs).bind fun ns => some (D.int ns.sum)) = some d := h
    rw [Option.bind_eq_some_iff] at h
    obtain ⟨ns, e, h⟩ := h
    cases h
    obtain ⟨v, rfl, rv⟩ := rs.one
    obtain ⟨p, us, rfl, hp, r⟩ := rv.lst
    exact ⟨p, ns, rfl, by rw [← r.ints e]; exact SqL.of hp, fun z' => R.int z'⟩
theorem any_sound {K : PySem.W.Frag} : CallSound .any (rAny K) := by
  intro f g tmp ow σ env s ds d vs H Q hf z rs h R
  match ds, h with
  | [.lst xs], h =>
    have h : ((D.bools xs).map fun ns => D.bl (ns.any id)) = some d := h
    rw [Option.map_eq_some_iff] at h
    obtain ⟨ns, e, h⟩ := h
    cases h
    obtain ⟨v, rfl, rv⟩ := rs.one
    obtain ⟨p, us, rfl, hp, r⟩ := rv.lst
    exact ⟨p, ns, rfl, by rw [← r.bools e]; exact SqL.of hp, fun z' => R.bl z'⟩
theorem all_sound {K : PySem.W.Frag} : CallSound .all (rAll K) := by
  intro f g tmp ow σ env s ds d vs H Q hf z rs h R
  match ds, h with
  | [.lst xs], h =>
    have h : ((D.bools xs).map fun ns => D.bl (ns.all id)) = some d := h
    rw [Option.map_eq_some_iff] at h
    obtain ⟨ns, e, h⟩ := h
    cases h
    obtain ⟨v, rfl, rv⟩ := rs.one
    obtain ⟨p, us, rfl, hp, r⟩ := rv.lst
    exact ⟨p, ns, rfl, by rw [← r.bools e]; exact SqL.of hp, fun z' => R.bl z'⟩
theorem maxI_ok : ∀ (r : List Int) (m k : Int), (k ∈ m :: r ∧ ∀ y ∈ m :: r, y ≤ k) → maxI m r = k
  | [], m, k, h => by
    have := h.1
    simp only [List.mem_singleton] at this
    exact this.symm
  | x :: r, m, k, h => by
    simp only [maxI]
    apply maxI_ok r
    obtain ⟨h1, h2⟩ := h
    have hm := h2 m (by simp)
    have hx := h2 x (by simp)
    refine ⟨?_, fun y hy => ?_⟩
    · simp only [List.mem_cons] at h1 ⊢
      by_cases c : x > m
      · rw [if_pos c]
        rcases h1 with rfl | h1
        · omega
        · exact h1
      · rw [if_neg c]
        rcases h1 with rfl | rfl | h1
        · exact .inl rfl
        · exact .inl (by omega)
        · exact .inr h1
    · rcases List.mem_cons.mp hy with rfl | hy
      · split <;> assumption
      · exact h2 y (by simp [hy])
theorem minI_ok : ∀ (r : List Int) (m k : Int), (k ∈ m :: r ∧ ∀ y ∈ m :: r, k ≤ y) → minI m r = k
  | [], m, k, h => by
    have := h.1
    simp only [List.mem_singleton] at this
    exact this.symm
  | x :: r, m, k, h => by
    simp only [minI]
    apply minI_ok r
    obtain ⟨h1, h2⟩ := h
    have hm := h2 m (by simp)
    have hx := h2 x (by simp)
    refine ⟨?_, fun y hy => ?_⟩
    · simp only [List.mem_cons] at h1 ⊢
      by_cases c : x < m
      · rw [if_pos c]
        rcases h1 with rfl | h1
        · omega
        · exact h1
      · rw [if_neg c]
        rcases h1 with rfl | rfl | h1
        · exact .inl rfl
        · exact .inl (by omega)
        · exact .inr h1
    · rcases List.mem_cons.mp hy with rfl | hy
      · split <;> assumption
      · exact h2 y (by simp [hy])
theorem max_sound {K : PySem.W.Frag} : CallSound .max1 (rMax K) := by
  intro f g tmp ow σ env s ds d vs H Q hf z rs h R
  match ds, h with
  | [.lst xs], h =>
    have h : ((D.intsOf xs).bind fun ns => match ns with | [] => none | m :: r => some (D.int (maxI m r))) = some d := h
    rw [Option.bind_eq_some_iff] at h
    obtain ⟨ns, e, h⟩ := h
    obtain ⟨v, rfl, rv⟩ := rs.one
    obtain ⟨p, us, rfl, hp, r⟩ := rv.lst
    cases ns with
    | nil => cases h
    | cons m ns =>
      cases h
      refine ⟨p, m :: ns, rfl, by rw [← r.ints e]; exact SqL.of hp, by simp, fun k h1 h2 z' => ?_⟩
      rw [← maxI_ok ns m k ⟨h1, h2⟩]
      exact R.int z'
theorem min_sound {K : PySem.W.Frag} : CallSound .min1 (rMin K) := by
  intro f g tmp ow σ env s ds d vs H Q hf z rs h R
  match ds, h with
  | [.lst xs], h =>
    have h : ((D.intsOf xs).bind fun ns => match ns with | [] => none | m :: r => some (D.int (minI m r))) = some d := h
    rw [Option.bind_eq_some_iff] at h
    obtain ⟨ns, e, h⟩ := h
    obtain ⟨v, rfl, rv⟩ := rs.one
    obtain ⟨p, us, rfl, hp, r⟩ := rv.lst
    cases ns with
    | nil => cases h
    | cons m ns =>
      cases h
      refine ⟨p, m :: ns, rfl, by rw [← r.ints e]; exact SqL.of hp, by simp, fun k h1 h2 z' => ?_⟩
      rw [← minI_ok ns m k ⟨h1, h2⟩]
      exact R.int z'

/-! repr -/
mutual
theorem shown_rsz : ∀ (d : D) (k : Nat) (p : PyData), D.shp d k = true → toPy d = some p → D.rsz d ≤ 8388608 → p.shown.length ≤ D.rsz d ∧ p.showable = true ∧ p.hasDict = false
  | .non, k, p, hs, e, hz => by cases e; exact ⟨by decide, rfl, rfl⟩
  | .bl b, k, p, hs, e, hz => by cases e; exact ⟨by cases b <;> decide, rfl, rfl⟩
  | .int i, k, p, hs, e, hz => by
    cases e
    simp only [D.rsz] at hz ⊢
    split at hz
    · rename_i h
      have h : i.natAbs < 2 ^ 64 := by simpa using h
      rw [if_pos (by simpa using h)]
      have hl : i.natAbs.log2 < 64 := by
        by_cases c : i.natAbs = 0
        · rw [c]; decide
        · exact (Nat.log2_lt c).mpr h
      refine ⟨?_, ?_, rfl⟩
      · have := int_text_length_le (a := i) (k := 64) (by decide) hl
        show (Str.ofString (toString i)).length ≤ 70
        rw [ofString_length]
        omega
      · show decide (i.natAbs.log2 < 1920) = true
        simp; omega
    · omega
  | .str cs, k, p, hs, e, hz => by
    cases e
    simp only [D.shp, Bool.and_eq_true, List.all_eq_true, decide_eq_true_eq] at hs
    refine ⟨?_, rfl, rfl⟩
    have := StrLaws.reprText_len (codes cs) (fun c hc => by rw [codes_toList] at hc; have := hs.1 c hc; omega)
    have e2 : (codes cs).length = cs.length := by simp [codes, Str.length]
    simp only [D.rsz]
    show (reprText (codes cs)).length ≤ _
    omega
  | .lst xs, k, p, hs, e, hz => by
    cases k with
    | zero => simp [D.shp] at hs
    | succ k =>
      simp only [toPy, Option.map_eq_some_iff] at e
      obtain ⟨ps, e, rfl⟩ := e
      simp only [D.rsz] at hz ⊢
      obtain ⟨h1, h2, h3⟩ := shownL_rsz xs k ps (by simpa [D.shp] using hs) e (by omega)
      have := listText_len_le (PyData.shownAll ps)
      refine ⟨?_, ?_, ?_⟩
      · show (listText (PyData.shownAll ps)).length ≤ _
        omega
      · simpa [PyData.showable] using h2
      · simpa [PyData.hasDict] using h3
  | .tup xs, k, p, hs, e, hz => by
    cases k with
    | zero => simp [D.shp] at hs
    | succ k =>
      simp only [toPy, Option.map_eq_some_iff] at e
      obtain ⟨ps, e, rfl⟩ := e
      simp only [D.rsz] at hz ⊢
      obtain ⟨h1, h2, h3⟩ := shownL_rsz xs k ps (by simpa [D.shp] using hs) e (by omega)
      have := tupleText_len_le (PyData.shownAll ps)
      refine ⟨?_, ?_, ?_⟩
      · show (tupleText (PyData.shownAll ps)).length ≤ _
        omega
      · simpa [PyData.showable] using h2
      · simpa [PyData.hasDict] using h3
  | .rep _, k, p, hs, e, hz => by cases e
  | .dct _ _, k, p, hs, e, hz => by cases e
  | .src, k, p, hs, e, hz => by cases e
theorem shownL_rsz : ∀ (ds : List D) (k : Nat) (ps : List PyData), D.shpL ds k = true → toPys ds = some ps → D.rszL ds ≤ 8388608 → ((PyData.shownAll ps).map (·.length)).sum + 2 * (PyData.shownAll ps).length ≤ D.rszL ds ∧ PyData.showableAll ps = true ∧ PyData.hasDictAll ps = false
  | [], k, ps, hs, e, hz => by cases e; exact ⟨by simp [PyData.shownAll, D.rszL], rfl, rfl⟩
  | d :: ds, k, ps, hs, e, hz => by
    simp only [D.shpL, Bool.and_eq_true] at hs
    simp only [toPys, Option.bind_eq_some_iff, Option.map_eq_some_iff] at e
    obtain ⟨q, e1, qs, e2, rfl⟩ := e
    simp only [D.rszL] at hz
    obtain ⟨h1, h2, h3⟩ := shown_rsz d k q hs.1 e1 (by omega)
    obtain ⟨h4, h5, h6⟩ := shownL_rsz ds k qs hs.2 e2 (by omega)
    refine ⟨?_, ?_, ?_⟩
    · simp only [PyData.shownAll, List.map_cons, List.sum_cons, List.length_cons, D.rszL]
      omega
    · simp [PyData.showableAll, h2, h5]
    · simp [PyData.hasDictAll, h3, h6]
end
def rRepr (K : PySem.W.Frag) : List V → Hp → VK → Prop := fun vs H Q => ∃ v p, vs = [v] ∧ Dp K H v p ∧ p.showable = true ∧ p.hasDict = false ∧ p.depth ≤ 60 ∧ p.shown.length ≤ sizeLine ∧ Q (.str p.shown) H
theorem cr_repr (C : Cok X) : CallR X (.builtin "repr") (rRepr X.K) := by
  intro pins s σ H vs us Q I r h
  obtain ⟨v, p, rfl, hd, h1, h2, h3, h4, q⟩ := h
  obtain ⟨u, rfl, ru⟩ := vals1 r
  obtain ⟨as, rd⟩ := Dp.reads I p v u hd ru
  have hu := C.units
  have fin : ∀ (h' : Heap) (t : Tok) (tk : Nat), (∀ b o, s.heap.get? b = some o → h'.get? b = some o) → EP X pins σ Q (.str p.shown t) { s with heap := h', toks := tk } := fun h' t tk hk =>
    ⟨.str p.shown, H, I.kept (t' := tk) hk, ⟨t, rfl⟩, q⟩
  cases rd with
  | none => exact P.repr_of_none (fin s.heap _ _ fun _ _ e => e)
  | bool b => exact P.repr_of_bool (fin s.heap _ _ fun _ _ e => e)
  | int i t => exact P.repr_of_int (by simpa [PyData.showable] using h1) (fin s.heap _ _ fun _ _ e => e)
  | str x t => exact P.repr_of_str (fin s.heap _ _ fun _ _ e => e) h4
  | list a1 a2 a3 a4 => exact repr_of_reads' (.list a1 a2 a3 a4) h1 (fun z => by rw [h2] at z; cases z) C.guards (by omega) (fun _ _ e => e) (fun h' u tk hk => fin h' u tk hk) h4
  | tuple a1 a2 a3 a4 => exact repr_of_reads' (.tuple a1 a2 a3 a4) h1 (fun z => by rw [h2] at z; cases z) C.guards (by omega) (fun _ _ e => e) (fun h' u tk hk => fin h' u tk hk) h4
  | dict => simp [PyData.hasDict] at h2
theorem repr_sound {K : PySem.W.Frag} : CallSound .repr (rRepr K) := by
  intro f g tmp ow σ env s ds d vs H Q hf z rs h R
  match ds, h with
  | [x], h =>
    have h : (if D.shp x 50 && decide (D.rsz x ≤ 8388608) then some (D.rep x) else none) = some d := h
    split at h
    · rename_i c
      rw [Bool.and_eq_true, decide_eq_true_eq] at c
      cases h
      obtain ⟨v, rfl, rv⟩ := rs.one
      obtain ⟨p, e, c1, c2⟩ := shp_py x 50 c.1
      obtain ⟨h1, h2, h3⟩ := shown_rsz x 50 p c.1 e c.2
      have hsz : p.shown.length ≤ sizeLine := by
        have : sizeLine = 16777216 := by decide
        have := c.2
        omega
      exact ⟨v, p, rfl, rv.dp e, h2, h3, by omega, hsz, fun z' => R.val (.rep (by simp [repS, e])) (fun _ => rfl) z'⟩
    · cases h
end
end Rf
end

section
set_option linter.all false
set_option Elab.async false
set_option maxRecDepth 100000
namespace Rf
open PySem L2

/-! sorted -/
mutual
theorem ltD_py : ∀ (a b : D) (p q : PyData), alk a b = true → toPy a = some p → toPy b = some q → ltD a b = PySem.W.dataLt p q ∧ PySem.W.alike p q = true
  | .int i, b, p, q, h, ha, hb => by
    cases b <;> simp only [alk, Bool.false_eq_true] at h
    cases ha; cases hb
    exact ⟨by simp only [ltD]; rw [PySem.W.dataLt_int], by simp [PySem.W.alike]⟩
  | .lst xs, b, p, q, h, ha, hb => by
    cases b <;> simp only [alk, Bool.false_eq_true] at h
    simp only [toPy, Option.map_eq_some_iff] at ha hb
    obtain ⟨ps, e1, rfl⟩ := ha
    obtain ⟨qs, e2, rfl⟩ := hb
    obtain ⟨h1, h2⟩ := ltL_py xs _ ps qs h e1 e2
    exact ⟨by simp only [ltD]; rw [PySem.W.dataLt_list]; exact h1, by simpa [PySem.W.alike] using h2⟩
  | .tup xs, b, p, q, h, ha, hb => by
    cases b <;> simp only [alk, Bool.false_eq_true] at h
    simp only [toPy, Option.map_eq_some_iff] at ha hb
    obtain ⟨ps, e1, rfl⟩ := ha
    obtain ⟨qs, e2, rfl⟩ := hb
    obtain ⟨h1, h2⟩ := ltL_py xs _ ps qs h e1 e2
    exact ⟨by simp only [ltD]; rw [PySem.W.dataLt_tuple]; exact h1, by simpa [PySem.W.alike] using h2⟩
  | .non, b, p, q, h, ha, hb => by simp [alk] at h
  | .bl _, b, p, q, h, ha, hb => by simp [alk] at h
  | .str _, b, p, q, h, ha, hb => by simp [alk] at h
  | .rep _, b, p, q, h, ha, hb => by simp [alk] at h
  | .dct _ _, b, p, q, h, ha, hb => by simp [alk] at h
  | .src, b, p, q, h, ha, hb => by simp [alk] at h
theorem ltL_py : ∀ (a b : List D) (p q : List PyData), alkL a b = true → toPys a = some p → toPys b = some q → ltL a b = PyProof.Rows.lexLt PyProof.Rows.itemOrd (PySem.W.keyToksAll p) (PySem.W.keyToksAll q) ∧ PySem.W.alikeAll p q = true
  | [], [], p, q, h, ha, hb => by
    cases ha; cases hb
    exact ⟨by simp only [ltL]; rfl, by simp [PySem.W.alikeAll]⟩
  | [], y :: ys, p, q, h, ha, hb => by
    cases ha
    simp only [toPys, Option.bind_eq_some_iff, Option.map_eq_some_iff] at hb
    obtain ⟨q1, e1, qs, e2, rfl⟩ := hb
    exact ⟨by simp only [ltL]; rfl, by simp [PySem.W.alikeAll]⟩
  | x :: xs, [], p, q, h, ha, hb => by
    cases hb
    simp only [toPys, Option.bind_eq_some_iff, Option.map_eq_some_iff] at ha
    obtain ⟨q1, e1, qs, e2, rfl⟩ := ha
    exact ⟨by simp only [ltL]; rfl, by simp [PySem.W.alikeAll]⟩
  | x :: xs, y :: ys, p, q, h, ha, hb => by
    simp only [alkL, Bool.and_eq_true] at h
    simp only [toPys, Option.bind_eq_some_iff, Option.map_eq_some_iff] at ha hb
    obtain ⟨p1, e1, ps, e2, rfl⟩ := ha
    obtain ⟨q1, e3, qs, e4, rfl⟩ := hb
    obtain ⟨h1, h2⟩ := ltD_py x y p1 q1 h.1 e1 e3
    obtain ⟨h3, h4⟩ := ltL_py xs ys ps qs h.2 e2 e4
    refine ⟨?_, by simp [PySem.W.alikeAll, h2, h4]⟩
    simp only [ltL]
    rw [PySem.W.dataLt_cons h2, eqv_py x y p1 q1 e1 e3, h1, h3]
end
mutual
theorem alk_eqv : ∀ (a b : D), alk a b = true → (D.eqv a b = true ↔ a = b)
  | .int i, b, h => by
    cases b <;> simp only [alk, Bool.false_eq_true] at h
    simp [D.eqv]
  | .lst xs, b, h => by
    cases b <;> simp only [alk, Bool.false_eq_true] at h
    simp only [D.eqv, D.lst.injEq]
    exact alkL_eqv xs _ h
  | .tup xs, b, h => by
    cases b <;> simp only [alk, Bool.false_eq_true] at h
    simp only [D.eqv, D.tup.injEq]
    exact alkL_eqv xs _ h
  | .non, b, h => by simp [alk] at h
  | .bl _, b, h => by simp [alk] at h
  | .str _, b, h => by simp [alk] at h
  | .rep _, b, h => by simp [alk] at h
  | .dct _ _, b, h => by simp [alk] at h
  | .src, b, h => by simp [alk] at h
theorem alkL_eqv : ∀ (a b : List D), alkL a b = true → (D.eqvL a b = true ↔ a = b)
  | [], [], _ => by simp [D.eqvL]
  | [], _ :: _, _ => by simp [D.eqvL]
  | _ :: _, [], _ => by simp [D.eqvL]
  | x :: xs, y :: ys, h => by
    simp only [alkL, Bool.and_eq_true] at h
    simp only [D.eqvL, Bool.and_eq_true, List.cons.injEq]
    rw [alk_eqv x y h.1, alkL_eqv xs ys h.2]
end
mutual
theorem lt_anti : ∀ (a b : D), alk a b = true → alk b a = true → ltD a b = false → ltD b a = false → a = b
  | .int i, b, h, h', h1, h2 => by
    cases b <;> simp only [alk, Bool.false_eq_true] at h
    simp only [ltD, decide_eq_false_iff_not] at h1 h2
    congr 1; omega
  | .lst xs, b, h, h', h1, h2 => by
    cases b <;> simp only [alk, Bool.false_eq_true] at h
    simp only [ltD, alk] at h1 h2 h'
    rw [ltL_anti xs _ h h' h1 h2]
  | .tup xs, b, h, h', h1, h2 => by
    cases b <;> simp only [alk, Bool.false_eq_true] at h
    simp only [ltD, alk] at h1 h2 h'
    rw [ltL_anti xs _ h h' h1 h2]
  | .non, b, h, _, _, _ => by simp [alk] at h
  | .bl _, b, h, _, _, _ => by simp [alk] at h
  | .str _, b, h, _, _, _ => by simp [alk] at h
  | .rep _, b, h, _, _, _ => by simp [alk] at h
  | .dct _ _, b, h, _, _, _ => by simp [alk] at h
  | .src, b, h, _, _, _ => by simp [alk] at h
theorem ltL_anti : ∀ (a b : List D), alkL a b = true → alkL b a = true → ltL a b = false → ltL b a = false → a = b
  | [], [], _, _, _, _ => rfl
  | [], _ :: _, _, _, h1, _ => by simp [ltL] at h1
  | _ :: _, [], _, _, _, h2 => by simp [ltL] at h2
  | x :: xs, y :: ys, h, h', h1, h2 => by
    simp only [alkL, Bool.and_eq_true] at h h'
    simp only [ltL] at h1 h2
    by_cases e : x = y
    · subst e
      rw [if_pos ((alk_eqv x x h.1).mpr rfl)] at h1 h2
      rw [ltL_anti xs ys h.2 h'.2 h1 h2]
    · rw [if_neg (fun z => e ((alk_eqv x y h.1).mp z))] at h1
      rw [if_neg (fun z => e ((alk_eqv y x h'.1).mp z).symm)] at h2
      exact absurd (lt_anti x y h.1 h'.1 h1 h2) e
end
theorem insD_perm (x : D) : ∀ l : List D, (insD x l).Perm (x :: l)
  | [] => .refl _
  | y :: ys => by
    simp only [insD]
    split
    · exact ((insD_perm x ys).cons y).trans (.swap x y ys)
    · exact .refl _
theorem sortD_perm : ∀ l : List D, (sortD l).Perm l
  | [] => .refl _
  | x :: xs => (insD_perm x (sortD xs)).trans ((sortD_perm xs).cons x)
theorem insD_sorted (le : D → D → Prop) (htot : ∀ a b, ltD a b = true → le a b) (hnot : ∀ a b, ltD a b = false → le b a) (x : D) (htr : ∀ a b c, le a b → le b c → le a c) : ∀ l : List D, l.Pairwise le → (insD x l).Pairwise le
  | [], _ => List.pairwise_singleton ..
  | y :: ys, h => by
    simp only [insD]
    rw [List.pairwise_cons] at h
    cases c : ltD y x with
    | true =>
      rw [if_pos rfl]
      refine List.pairwise_cons.mpr ⟨fun z hz => ?_, insD_sorted le htot hnot x htr ys h.2⟩
      rcases List.mem_cons.mp ((insD_perm x ys).mem_iff.mp hz) with rfl | hz
      · exact htot _ _ c
      · exact h.1 z hz
    | false =>
      rw [if_neg (by simp)]
      refine List.pairwise_cons.mpr ⟨fun z hz => ?_, List.pairwise_cons.mpr h⟩
      rcases List.mem_cons.mp hz with rfl | hz
      · exact hnot _ _ c
      · exact htr _ _ _ (hnot _ _ c) (h.1 z hz)
def encD (d : D) : PyData := (toPy d).getD .none
theorem encD_of {d : D} {p : PyData} (h : toPy d = some p) : encD d = p := by simp [encD, h]
def leB (b c : V × D) : Bool := PySem.W.dataLe false (fun b : V × D => encD b.2) b c
theorem leB_eq (b c : V × D) : leB b c = !PySem.W.dataLt (encD c.2) (encD b.2) := by unfold leB; rw [PySem.W.dataLe_eq]; rfl
theorem leB_trans (a b c : V × D) (h1 : leB a b = true) (h2 : leB b c = true) : leB a c = true := (PySem.W.sortLe_total (PyProof.Rows.listOrd PyProof.Rows.itemOrd) false (fun b : V × D => PySem.W.keyToks (encD b.2))).trans a b c h1 h2
theorem leB_total (a b : V × D) : (leB a b || leB b a) = true := by
  have h := (PySem.W.sortLe_total (PyProof.Rows.listOrd PyProof.Rows.itemOrd) false (fun b : V × D => PySem.W.keyToks (encD b.2))).total a b
  rcases h with h | h
  · rw [Bool.or_eq_true]; exact .inl h
  · rw [Bool.or_eq_true]; exact .inr h
/-- the sorted data, by any sort -/
theorem sort_same {bs : List (V × D)} (hal : ∀ b ∈ bs, ∀ c ∈ bs, alk b.2 c.2 = true) (hpy : ∀ b ∈ bs, ∃ p, toPy b.2 = some p) : (bs.mergeSort leB).map Prod.snd = sortD (bs.map Prod.snd) := by
  have hp : ((bs.mergeSort leB).map Prod.snd).Perm (bs.map Prod.snd) := (List.mergeSort_perm bs leB).map Prod.snd
  have hlt : ∀ b ∈ bs, ∀ c ∈ bs, ltD b.2 c.2 = PySem.W.dataLt (encD b.2) (encD c.2) := fun b hb c hc => by
    obtain ⟨p, e1⟩ := hpy b hb
    obtain ⟨q, e2⟩ := hpy c hc
    rw [encD_of e1, encD_of e2]
    exact (ltD_py b.2 c.2 p q (hal b hb c hc) e1 e2).1
  -- a total order on the data at hand
  let le : D → D → Prop := fun x y => PySem.W.dataLt (encD y) (encD x) = false
  have le_tr : ∀ a b c, le a b → le b c → le a c := fun a b c h1 h2 => by
    have q := leB_trans (V.non, a) (V.non, b) (V.non, c) (by rw [leB_eq]; simpa using h1) (by rw [leB_eq]; simpa using h2)
    rw [leB_eq] at q
    simpa using q
  have le_tot : ∀ a b, PySem.W.dataLt (encD a) (encD b) = true → le a b := fun a b h => by
    have q := leB_total (V.non, a) (V.non, b)
    rw [leB_eq, leB_eq] at q
    have q : (!PySem.W.dataLt (encD b) (encD a) || !PySem.W.dataLt (encD a) (encD b)) = true := q
    rw [h] at q
    simpa using q
  have s1 : ((bs.mergeSort leB).map Prod.snd).Pairwise le := by
    rw [List.pairwise_map]
    refine (List.pairwise_mergeSort leB_trans leB_total bs).imp fun {a b} h => ?_
    rw [leB_eq] at h
    simpa using h
  have s2 : ∀ l : List D, (∀ x ∈ l, ∃ b ∈ bs, b.2 = x) → (sortD l).Pairwise le := by
    intro l
    induction l with
    | nil => intro _; exact List.Pairwise.nil
    | cons x xs ih =>
      intro hl
      have ihs := ih fun y hy => hl y (List.mem_cons_of_mem _ hy)
      obtain ⟨bx, hbx, rfl⟩ := hl x List.mem_cons_self
      -- insertion among elements of bs
      have go : ∀ l' : List D, (∀ y ∈ l', ∃ b ∈ bs, b.2 = y) → l'.Pairwise le → (insD bx.2 l').Pairwise le := by
        intro l'
        induction l' with
        | nil => intro _ _; exact List.pairwise_singleton ..
        | cons y ys ih2 =>
          intro hm h
          rw [List.pairwise_cons] at h
          obtain ⟨byy, hby, rfl⟩ := hm y List.mem_cons_self
          simp only [insD]
          cases c : ltD byy.2 bx.2 with
          | true =>
            rw [if_pos rfl]
            refine List.pairwise_cons.mpr ⟨fun z hz => ?_, ih2 (fun y hy => hm y (List.mem_cons_of_mem _ hy)) h.2⟩
            rcases List.mem_cons.mp ((insD_perm bx.2 ys).mem_iff.mp hz) with rfl | hz
            · rw [hlt byy hby bx hbx] at c
              exact le_tot _ _ c
            · exact h.1 z hz
          | false =>
            rw [if_neg (by simp)]
            rw [hlt byy hby bx hbx] at c
            refine List.pairwise_cons.mpr ⟨fun z hz => ?_, List.pairwise_cons.mpr h⟩
            rcases List.mem_cons.mp hz with rfl | hz
            · exact c
            · exact le_tr _ _ _ c (h.1 z hz)
      exact go (sortD xs) (fun y hy => hl y (List.mem_cons_of_mem _ ((sortD_perm xs).mem_iff.mp hy))) ihs
  refine List.Perm.eq_of_pairwise (le := le) (fun a b ha hb h1 h2 => ?_) s1 (s2 _ fun x hx => ?_) (hp.trans (sortD_perm _).symm)
  · obtain ⟨ba, hba, rfl⟩ := List.mem_map.mp (hp.mem_iff.mp ha)
    obtain ⟨bb, hbb, rfl⟩ := List.mem_map.mp ((sortD_perm _).mem_iff.mp hb)
    refine lt_anti _ _ (hal ba hba bb hbb) (hal bb hbb ba hba) ?_ ?_
    · rw [hlt ba hba bb hbb]; exact h2
    · rw [hlt bb hbb ba hba]; exact h1
  · obtain ⟨b, hb, rfl⟩ := List.mem_map.mp hx
    exact ⟨b, hb, rfl⟩

def rSortA (K : PySem.W.Frag) : List V → Hp → VK → Prop := fun vs H Q => ∃ (a : Addr) (xs : List V) (ds : List D), vs = [.ref a] ∧ SqL K H a xs ∧ xs.length = ds.length ∧ (∃ ps, toPys ds = some ps ∧ DpAll K H xs ps) ∧
  PySem.W.AllAlike (ds.map encD) ∧ PySem.W.Sortable (ds.map encD) ∧ (∀ d ∈ ds, (encD d).depth ≤ 60) ∧ ∀ p, H p = none → Q (.ref p) (upd H p (.lst (((xs.zip ds).mergeSort leB).map Prod.fst)))
theorem toPys_map : ∀ {ds : List D} {ps : List PyData}, toPys ds = some ps → ps = ds.map encD
  | [], _, h => by cases h; rfl
  | d :: ds, _, h => by
    simp only [toPys, Option.bind_eq_some_iff, Option.map_eq_some_iff] at h
    obtain ⟨p, e1, ps, e2, rfl⟩ := h
    rw [List.map_cons, encD_of e1, toPys_map e2]
theorem each_zip : ∀ {xs : List V} {us : List Value} {ds : List D}, Vals xs us → xs.length = ds.length → PySem.W.EachIs (fun u (b : V × D) => RelV b.1 u) us (xs.zip ds)
  | _, _, [], .nil, _ => .nil
  | _, _, d :: ds, .cons r t, h => .cons r (each_zip t (by simpa using h))
  | _, _, [], .cons _ _, h => by simp at h
  | _, _, _ :: _, .nil, h => by simp at h
theorem vals_each : ∀ {us : List Value} {bs : List (V × D)}, PySem.W.EachIs (fun u (b : V × D) => RelV b.1 u) us bs → Vals (bs.map Prod.fst) us
  | _, _, .nil => .nil
  | _, _, .cons r t => .cons r (vals_each t)
theorem cr_sortA {X : Cx} (C : Cok X) : CallR X (.builtin "sorted") (rSortA X.K) := by
  intro pins s σ H vs us Q I r h
  obtain ⟨a, xs, ds, rfl, hs, hlen, ⟨ps, hps, hdp⟩, hal, hso, hdep, q⟩ := h
  obtain ⟨its, rv, hl, hz⟩ := I.list hs
  obtain ⟨u, rfl, ru⟩ := vals1 r
  cases ru
  obtain ⟨as, hrd⟩ := Dp.readsAll I ps xs its hdp rv
  have hbs : (xs.zip ds).map (fun b => encD b.2) = ds.map encD := by
    have e1 : ((xs.zip ds).map Prod.snd).map encD = ds.map encD := by rw [List.map_snd_zip (by omega)]
    rw [List.map_map] at e1
    exact e1
  have hzl : (xs.zip ds).length = xs.length := by rw [List.length_zip]; omega
  have hu := C.units
  have hsl : sizeLine = 16777216 := by decide
  refine PySem.W.sorted_data (bs := xs.zip ds) (enc := fun b => encD b.2) (R := fun u (b : V × D) => RelV b.1 u) hl.isList (each_zip rv hlen) ?_ (by rw [hbs]; exact hal) (by rw [hbs]; exact hso) (by rw [hzl]; exact hz) (fun b hb => ?_) fun out ho he => ?_
  · refine PySem.W.readsAll_each _ (as := as) ?_
    rw [hbs, ← toPys_map hps]
    exact hrd
  · have : b.2 ∈ ds := (List.of_mem_zip hb).2
    have := hdep b.2 this
    show X.A.units + 2 + (encD b.2).depth < cLine
    omega
  · obtain ⟨ep, he'⟩ := PyProof.Rows.sortedAll_at s.heap its out.toArray
    have hvo : Vals (((xs.zip ds).mergeSort leB).map Prod.fst) out := vals_each he
    have hlo : (((xs.zip ds).mergeSort leB).map Prod.fst).length ≤ sizeLine := by
      rw [List.length_map, (List.mergeSort_perm _ _).length_eq, hzl]; exact hz
    exact ⟨.ref _, _, I.laid (t' := s.toks) (o := .lst (((xs.zip ds).mergeSort leB).map Prod.fst)) (fun _ _ e => PyProof.Rows.sortedAll_old e) (Nat.le_succ _) ⟨hlo, out, ep, hvo, he'⟩, rfl, q _ (I.hok.fresh (Nat.le_succ _))⟩
theorem RepL.zipped {aS : AS} {A : Addr → Prop} {H : Hp} : ∀ {xs : List V} {ds : List D}, RepL aS A H xs ds → ∀ b ∈ xs.zip ds, Rep aS A H b.1 b.2
  | _, _, .nil, b, hb => by simp at hb
  | _, _, .cons a r, b, hb => by
    rw [List.zip_cons_cons] at hb
    rcases List.mem_cons.mp hb with rfl | hb
    · exact a
    · exact r.zipped b hb
theorem repL_of {aS : AS} {A : Addr → Prop} {H : Hp} : ∀ {bs : List (V × D)}, (∀ b ∈ bs, Rep aS A H b.1 b.2) → RepL aS A H (bs.map Prod.fst) (bs.map Prod.snd)
  | [], _ => .nil
  | b :: bs, h => .cons (h b List.mem_cons_self) (repL_of fun c hc => h c (List.mem_cons_of_mem _ hc))
theorem depthAll_le {ps : List PyData} {k : Nat} (h : PyData.depthAll ps ≤ k) : ∀ p ∈ ps, p.depth ≤ k := by
  induction ps with
  | nil => intro p hp; cases hp
  | cons q qs ih =>
    simp only [PyData.depthAll] at h
    intro p hp
    rcases List.mem_cons.mp hp with rfl | hp
    · omega
    · exact ih (by omega) p hp
theorem toPys_each : ∀ {ds : List D} {ps : List PyData}, toPys ds = some ps → ∀ d ∈ ds, ∃ p, toPy d = some p
  | [], _, _, d, hd => by cases hd
  | x :: xs, _, h, d, hd => by
    simp only [toPys, Option.bind_eq_some_iff, Option.map_eq_some_iff] at h
    obtain ⟨p, e1, ps, e2, rfl⟩ := h
    rcases List.mem_cons.mp hd with rfl | hd
    · exact ⟨p, e1⟩
    · exact toPys_each e2 d hd
theorem sort_sound {K : PySem.W.Frag} : CallSound .sorted (rSortA K) := by
  intro f g tmp ow σ env s ds d vs H Q hf z rs h R
  have hf : f = true := hf
  subst hf
  match ds, h with
  | [.lst xs], h =>
    simp only [biD] at h
    split at h
    · rename_i c
      simp only [Bool.and_eq_true, List.all_eq_true] at c
      obtain ⟨⟨hal, hsh⟩, hso⟩ := c
      cases h
      obtain ⟨v, rfl, rv⟩ := rs.one
      obtain ⟨p, us, rfl, hp, r⟩ := rv.lst
      obtain ⟨ps, e, _, hd⟩ := shpL_py xs 60 hsh
      have em := toPys_map e
      have hzs : (us.zip xs).map Prod.snd = xs := List.map_snd_zip (by rw [r.length]; exact Nat.le_refl _)
      have hmem : ∀ b ∈ us.zip xs, b.2 ∈ xs := fun b hb => (List.of_mem_zip hb).2
      have hsame : ((us.zip xs).mergeSort leB).map Prod.snd = sortD xs := by
        rw [sort_same (fun b hb c hc => hal _ (hmem b hb) _ (hmem c hc)) (fun b hb => toPys_each e _ (hmem b hb)), hzs]
      refine ⟨p, us, xs, rfl, SqL.of hp, r.length, ⟨ps, e, repL_dp r e⟩, ?_, ?_, fun d hdm => ?_, fun t ht z' => ?_⟩
      · intro q hq q' hq'
        obtain ⟨x, hx, rfl⟩ := List.mem_map.mp hq
        obtain ⟨y, hy, rfl⟩ := List.mem_map.mp hq'
        obtain ⟨a1, e1⟩ := toPys_each e x hx
        obtain ⟨a2, e2⟩ := toPys_each e y hy
        rw [encD_of e1, encD_of e2]
        exact (ltD_py x y a1 a2 (hal x hx y hy) e1 e2).2
      · rw [Bool.or_eq_true, List.all_eq_true, List.all_eq_true] at hso
        rcases hso with hso | hso
        · refine .inr fun q hq => ?_
          obtain ⟨x, hx, rfl⟩ := List.mem_map.mp hq
          have := hso x hx
          cases x <;> simp at this
          exact ⟨fun e => (by simp [encD, toPy] at e), fun xs e => (by simp [encD, toPy] at e)⟩
        · refine .inl fun q hq => ?_
          obtain ⟨x, hx, rfl⟩ := List.mem_map.mp hq
          have := hso x hx
          cases x with
          | tup ys =>
            cases ys with
            | nil => simp at this
            | cons y ys =>
              obtain ⟨a1, e1⟩ := toPys_each e _ hx
              rw [encD_of e1]
              simp only [toPy, toPys, Option.map_eq_some_iff, Option.bind_eq_some_iff] at e1
              obtain ⟨w, ⟨q, _, qs, _, rfl⟩, rfl⟩ := e1
              exact ⟨q, qs, rfl⟩
          | _ => simp at this
      · have : encD d ∈ ps := by rw [em]; exact List.mem_map_of_mem hdm
        exact depthAll_le hd _ this
      · have hr := repL_of (aS := g.aS) (A := Av g tmp ow) (H := H) (bs := (us.zip xs).mergeSort leB) fun b hb => r.zipped b ((List.mergeSort_perm _ _).mem_iff.mp hb)
        rw [hsame] at hr
        exact R.lst hr ht z'
    · cases h
end Rf
end

section
set_option linter.all false
set_option Elab.async false
set_option maxRecDepth 100000
namespace Rf
open PySem L2

/-! tests -/
def TT' (cf : Cf) (e : Ex) : TT := fun σ H Q => ∃ g tmp ow env s b env' s', Stt g tmp ow σ H env s ∧ ev cf e env s = some (.bl b, env', s') ∧
  ∀ H' ow', SzOk H' → Stt g tmp ow' σ H' env' s' → Frm (Av g tmp ow) (Av g tmp ow') tmp H H' → Q b H'
section
variable {X : Cx} {cf : Cf} {a b c e : Expr} {ea eb ec x : Ex} {pos p : Pos} {es rest : List Expr} {xs : List Ex}
theorem PT.mk' {t t' : TT} (h : PT X e t) (k : ∀ σ H Q, SzOk H → t' σ H Q → t σ H (fun v H1 => SzOk H1 → Q v H1)) : PT X e t' :=
  ⟨fun pins s σ H Q I hw => thn (h.run pins s σ H _ I (k σ H Q (szOk_of I) hw)) fun u s' ⟨H', I', q⟩ => ⟨H', I', q (szOk_of I')⟩⟩
theorem PW.mk' {t t' : TT} (h : PW X e t) (k : ∀ σ H Q, SzOk H → t' σ H Q → t σ H (fun v H1 => SzOk H1 → Q v H1)) : PW X e t' :=
  ⟨fun wh pins s σ H Q I hw => thn (h.run wh pins s σ H _ I (k σ H Q (szOk_of I) hw)) fun u s' ⟨H', I', q⟩ => ⟨H', I', q (szOk_of I')⟩⟩
theorem tt_tB {σ : St} {H : Hp} {Q : Bool → Hp → Prop} (h : TT' cf x σ H Q) : tB (T cf x) σ H (fun v H1 => SzOk H1 → Q v H1) := by
  obtain ⟨g, tmp, ow, env, s, b, env', s', S, he, k⟩ := h
  exact tB_run S he fun H1 ow1 z1 S1 F1 => fun _ => k H1 ow1 z1 S1 F1
theorem t_val (h : PE X e (T cf x)) (he : ∀ whole, isTrue e X.env whole = (do let v ← whole; standAt e.pos; holding [v] (truthy v)) := by intro _; rfl) : PT X e (TT' cf x) :=
  PT.mk' (pt_val h he) fun σ H Q z hT => tt_tB hT
theorem t_cmp {op : CmpOp} (h : PC X op a b (T cf x)) (hm : behindInMarks op b = false := by first | exact nobehind _ (by decide) (by decide) | rfl) : PT X (.Compare a [op] [b] pos) (TT' cf x) :=
  PT.mk' (pt_cmp h hm) fun σ H Q z hT => tt_tB hT
theorem t_not (h : PT X a (TT' cf ea)) : PT X (.UnaryOp .Not a pos) (TT' cf (.not ea)) :=
  PT.mk' (pt_not h) fun σ H Q z ⟨g, tmp, ow, env, s, b, env', s', S, he, k⟩ => by
    simp only [ev] at he
    cases h1 : ev cf ea env s with
    | none => rw [h1] at he; cases he
    | some q =>
      obtain ⟨d1, env1, s1⟩ := q
      rw [h1] at he
      cases d1 with
      | bl c =>
        simp only [Option.some.injEq, Prod.mk.injEq, D.bl.injEq] at he
        obtain ⟨rfl, rfl, rfl⟩ := he
        exact ⟨g, tmp, ow, env, s, c, env1, s1, S, h1, fun H' ow' z' S' F _ => k H' ow' z' S' F⟩
      | _ => simp at he
theorem w_one {op : BoolOp} (h : PT X a (TT' cf ea)) : PW X (.BoolOp op [a] pos) (TT' cf ea) := by
  cases op with
  | And => exact pw_and1 h
  | Or => exact pw_or1 h
theorem w_and (ha : PT X a (TT' cf ea)) (hb : PW X (.BoolOp .And (b :: rest) pos) (TT' cf eb)) : PW X (.BoolOp .And (a :: b :: rest) pos) (TT' cf (.and ea eb)) :=
  PW.mk' (pw_and ha hb) fun σ H Q z ⟨g, tmp, ow, env, s, b, env', s', S, he, k⟩ => by
    simp only [ev] at he
    cases h1 : ev cf ea env s with
    | none => rw [h1] at he; cases he
    | some q =>
      obtain ⟨d1, env1, s1⟩ := q
      rw [h1] at he
      cases d1 with
      | bl c =>
        refine ⟨g, tmp, ow, env, s, c, env1, s1, S, h1, fun H1 ow1 z1 S1 F1 => ?_⟩
        cases c with
        | true =>
          dsimp only at he
          rw [if_pos rfl] at he
          rw [if_pos rfl]
          exact ⟨g, tmp, ow1, env1, s1, b, env', s', S1, he, fun H' ow' z' S' F _ => k H' ow' z' S' (F1.trans F fun _ h => h)⟩
        | false =>
          dsimp only at he
          rw [if_neg Bool.false_ne_true] at he
          rw [if_neg Bool.false_ne_true]
          simp only [Option.some.injEq, Prod.mk.injEq, D.bl.injEq] at he
          obtain ⟨rfl, rfl, rfl⟩ := he
          exact fun _ => k H1 ow1 z1 S1 F1
      | _ => simp at he
theorem w_or (ha : PT X a (TT' cf ea)) (hb : PW X (.BoolOp .Or (b :: rest) pos) (TT' cf eb)) : PW X (.BoolOp .Or (a :: b :: rest) pos) (TT' cf (.or ea eb)) :=
  PW.mk' (pw_or ha hb) fun σ H Q z ⟨g, tmp, ow, env, s, b, env', s', S, he, k⟩ => by
    simp only [ev] at he
    cases h1 : ev cf ea env s with
    | none => rw [h1] at he; cases he
    | some q =>
      obtain ⟨d1, env1, s1⟩ := q
      rw [h1] at he
      cases d1 with
      | bl c =>
        refine ⟨g, tmp, ow, env, s, c, env1, s1, S, h1, fun H1 ow1 z1 S1 F1 => ?_⟩
        cases c with
        | false =>
          dsimp only at he
          rw [if_neg Bool.false_ne_true] at he
          rw [if_neg Bool.false_ne_true]
          exact ⟨g, tmp, ow1, env1, s1, b, env', s', S1, he, fun H' ow' z' S' F _ => k H' ow' z' S' (F1.trans F fun _ h => h)⟩
        | true =>
          dsimp only at he
          rw [if_pos rfl] at he
          rw [if_pos rfl]
          simp only [Option.some.injEq, Prod.mk.injEq, D.bl.injEq] at he
          obtain ⟨rfl, rfl, rfl⟩ := he
          exact fun _ => k H1 ow1 z1 S1 F1
      | _ => simp at he
theorem t_w (h : PW X e (TT' cf x)) : PT X e (TT' cf x) := h.pt
theorem r_ife (hc : PT X c (TT' cf ec)) (ha : PE X a (T cf ea)) (hb : PE X b (T cf eb)) : PE X (.IfExp c a b pos) (T cf (.ife ec ea eb)) := by
  refine PE.mk' (pe_ifExp hc ha hb) fun σ H Q z ⟨g, tmp, ow, env, s, d, env', s', S, he, k⟩ => ?_
  simp only [ev] at he
  cases h1 : ev cf ec env s with
  | none => rw [h1] at he; cases he
  | some q =>
    obtain ⟨d1, env1, s1⟩ := q
    rw [h1] at he
    cases d1 with
    | bl c =>
      refine ⟨g, tmp, ow, env, s, c, env1, s1, S, h1, fun H1 ow1 z1 S1 F1 => ?_⟩
      cases c with
      | true =>
        rw [if_pos rfl]
        dsimp only at he
        rw [if_pos rfl] at he
        refine T.run S1 he fun v2 H2 tmp2 ow2 z2 S2 F2 x2 => fun z' => ?_
        obtain ⟨tmp3, S3, F3, x3⟩ := x2.mono (c := fr (.ife ec ea eb)) (fun h => by simp only [fr, Bool.and_eq_true] at h; exact h.1) S2 F2
        exact k _ H2 tmp3 ow2 z' S3 (F1.trans F3 fun _ h => h) x3
      | false =>
        rw [if_neg Bool.false_ne_true]
        dsimp only at he
        rw [if_neg Bool.false_ne_true] at he
        refine T.run S1 he fun v2 H2 tmp2 ow2 z2 S2 F2 x2 => fun z' => ?_
        obtain ⟨tmp3, S3, F3, x3⟩ := x2.mono (c := fr (.ife ec ea eb)) (fun h => by simp only [fr, Bool.and_eq_true] at h; exact h.2) S2 F2
        exact k _ H2 tmp3 ow2 z' S3 (F1.trans F3 fun _ h => h) x3
    | _ => simp at he
end

/-! slots are stored, forgotten -/
section
variable {g : Gp} {tmp : List Addr} {ow : Ow} {σ : St} {H : Hp} {env : Env} {s : Sr} {i : Nat} {v : V} {d : D}
def oX (i : Nat) (ow : Ow) : Ow := fun j => if j = i then none else ow j
theorem oX_sub {a : Addr} (z : Av g tmp (oX i ow) a) : Av g tmp ow a := by
  rcases z with z | z | z | z | ⟨j, z⟩
  · exact .inl z
  · exact .inr (.inl z)
  · exact .inr (.inr (.inl z))
  · exact .inr (.inr (.inr (.inl z)))
  · by_cases e : j = i
    · simp [oX, e] at z
    · simp [oX, e] at z; exact .inr (.inr (.inr (.inr ⟨j, z⟩)))
theorem Stt.put (S : Stt g tmp ow σ H env s) (r : Rep g.aS (Av g tmp ow) H v d) (f : Bool) (hf : f = true → d.chg = false) :
    Stt g tmp (oX i ow) (σ.set i (some v)) H (env.set i (some (f, d))) s ∧ Frm (Av g tmp ow) (Av g tmp (oX i ow)) tmp H H := by
  have F : Frm (Av g tmp ow) (Av g tmp (oX i ow)) tmp H H := frm_shrink fun a z => oX_sub z
  refine ⟨⟨by rw [List.length_set, List.length_set]; exact S.len, fun j f' d' e => ?_, fun j k a h1 h2 => ?_, fun j a e => ?_, S.tmN, S.tmD, fun a z => S.alive a (oX_sub z), S.same, S.src⟩, F⟩
  · by_cases hj : j = i
    · subst hj
      have hl : j < env.length := by
        by_cases hl : j < env.length
        · exact hl
        · rw [List.getElem?_eq_none (by simpa using hl)] at e; cases e
      rw [List.getElem?_set_self hl] at e
      cases e
      exact ⟨v, List.getElem?_set_self (by rw [← S.len]; exact hl), .inr ⟨by simp [oX], hf, r.frm F⟩⟩
    · rw [List.getElem?_set_ne (Ne.symm hj)] at e
      obtain ⟨w, e1, q⟩ := S.slot j f' d' e
      refine ⟨w, by rw [List.getElem?_set_ne (Ne.symm hj)]; exact e1, ?_⟩
      rcases q with ⟨a, h1, h2, h3, t⟩ | ⟨h1, h2, r⟩
      · exact .inl ⟨a, by simp [oX, hj, h1], h2, h3, t.frm F rfl⟩
      · exact .inr ⟨by simp [oX, hj, h1], h2, r.frm F⟩
  · by_cases e1 : j = i
    · simp [oX, e1] at h1
    · by_cases e2 : k = i
      · simp [oX, e2] at h2
      · simp [oX, e1] at h1; simp [oX, e2] at h2; exact S.inj j k a h1 h2
  · by_cases e1 : j = i
    · simp [oX, e1] at e
    · simp [oX, e1] at e; exact S.owN j a e
def owS (i : Nat) (a : Addr) (ow : Ow) : Ow := fun j => if j = i then some a else ow j
/-- a new object becomes a slot's own -/
theorem Stt.own {a : Addr} (S : Stt g (a :: tmp) ow σ H env s) (t : Top g.aS (Av g (a :: tmp) ow) H a d) :
    Stt g tmp (owS i a ow) (σ.set i (some (.ref a))) H (env.set i (some (true, d))) s ∧ Frm (Av g (a :: tmp) ow) (Av g tmp (owS i a ow)) tmp H H := by
  have nt : a ∉ tmp := (List.nodup_cons.mp S.tmD).1
  have sub : ∀ b, Av g tmp (owS i a ow) b → Av g (a :: tmp) ow b := fun b z => by
    rcases z with z | z | z | z | ⟨j, z⟩
    · exact .inl z
    · exact .inr (.inl z)
    · exact .inr (.inr (.inl z))
    · exact .inr (.inr (.inr (.inl (List.mem_cons_of_mem _ z))))
    · by_cases e : j = i
      · simp [owS, e] at z; subst z; exact .inr (.inr (.inr (.inl List.mem_cons_self)))
      · simp [owS, e] at z; exact .inr (.inr (.inr (.inr ⟨j, z⟩)))
  have F : Frm (Av g (a :: tmp) ow) (Av g tmp (owS i a ow)) tmp H H := frm_shrink sub
  refine ⟨⟨by rw [List.length_set, List.length_set]; exact S.len, fun j f' d' e => ?_, fun j k b h1 h2 => ?_, fun j b e => ?_, fun b hb => S.tmN b (List.mem_cons_of_mem _ hb), (List.nodup_cons.mp S.tmD).2, fun b z => S.alive b (sub b z), S.same, S.src⟩, F⟩
  · by_cases hj : j = i
    · subst hj
      have hl : j < env.length := by
        by_cases hl : j < env.length
        · exact hl
        · rw [List.getElem?_eq_none (by simpa using hl)] at e; cases e
      rw [List.getElem?_set_self hl] at e
      cases e
      exact ⟨.ref a, List.getElem?_set_self (by rw [← S.len]; exact hl), .inl ⟨a, by simp [owS], rfl, rfl, t.frm F rfl⟩⟩
    · rw [List.getElem?_set_ne (Ne.symm hj)] at e
      obtain ⟨w, e1, q⟩ := S.slot j f' d' e
      refine ⟨w, by rw [List.getElem?_set_ne (Ne.symm hj)]; exact e1, ?_⟩
      rcases q with ⟨b, h1, h2, h3, t⟩ | ⟨h1, h2, r⟩
      · exact .inl ⟨b, by simp [owS, hj, h1], h2, h3, t.frm F rfl⟩
      · exact .inr ⟨by simp [owS, hj, h1], h2, r.frm F⟩
  · by_cases e1 : j = i
    · simp [owS, e1] at h1
      subst h1
      by_cases e2 : k = i
      · rw [e1, e2]
      · simp [owS, e2] at h2
        exact absurd List.mem_cons_self (S.owN k a h2).1
    · simp [owS, e1] at h1
      by_cases e2 : k = i
      · simp [owS, e2] at h2
        subst h2
        exact absurd List.mem_cons_self (S.owN j a h1).1
      · simp [owS, e2] at h2; exact S.inj j k b h1 h2
  · by_cases e1 : j = i
    · simp [owS, e1] at e
      subst e
      exact ⟨nt, S.tmN a List.mem_cons_self⟩
    · simp [owS, e1] at e
      exact ⟨fun z => (S.owN j b e).1 (List.mem_cons_of_mem _ z), (S.owN j b e).2⟩
def owW (own : List Nat) (ow : Ow) : Ow := fun j => if j ∈ own then none else ow j
theorem owW_sub {own : List Nat} {a : Addr} (z : Av g tmp (owW own ow) a) : Av g tmp ow a := by
  rcases z with z | z | z | z | ⟨j, z⟩
  · exact .inl z
  · exact .inr (.inl z)
  · exact .inr (.inr (.inl z))
  · exact .inr (.inr (.inr (.inl z)))
  · by_cases e : j ∈ own
    · simp [owW, e] at z
    · simp [owW, e] at z; exact .inr (.inr (.inr (.inr ⟨j, z⟩)))
theorem wipeE_length (own : List Nat) (env : Env) : (wipeE own env).length = env.length := by
  induction own with
  | nil => rfl
  | cons i r ih => show ((wipeE r env).set i none).length = _; rw [List.length_set]; exact ih
theorem wipeE_at {own : List Nat} {env : Env} {j : Nat} {x : Bool × D} (h : (wipeE own env)[j]? = some (some x)) : j ∉ own ∧ env[j]? = some (some x) := by
  induction own with
  | nil => exact ⟨by simp, h⟩
  | cons i r ih =>
    have h : ((wipeE r env).set i none)[j]? = some (some x) := h
    by_cases e : j = i
    · subst e
      by_cases hl : j < (wipeE r env).length
      · rw [List.getElem?_set_self hl] at h; cases h
      · rw [List.getElem?_eq_none (by simpa using hl)] at h; cases h
    · rw [List.getElem?_set_ne (Ne.symm e)] at h
      obtain ⟨h1, h2⟩ := ih h
      exact ⟨fun z => (List.mem_cons.mp z).elim e h1, h2⟩
/-- some slots forgotten -/
theorem Stt.wiped (S : Stt g tmp ow σ H env s) (own : List Nat) {σ' : St} (hl : σ'.length = σ.length) (he : ∀ j, j ∉ own → σ'[j]? = σ[j]?) :
    Stt g tmp (owW own ow) σ' H (wipeE own env) s ∧ Frm (Av g tmp ow) (Av g tmp (owW own ow)) tmp H H := by
  have F : Frm (Av g tmp ow) (Av g tmp (owW own ow)) tmp H H := frm_shrink fun a z => owW_sub z
  refine ⟨⟨by rw [wipeE_length, hl]; exact S.len, fun j f d e => ?_, fun j k a h1 h2 => ?_, fun j a e => ?_, S.tmN, S.tmD, fun a z => S.alive a (owW_sub z), S.same, S.src⟩, F⟩
  · obtain ⟨hn, e⟩ := wipeE_at e
    obtain ⟨w, e1, q⟩ := S.slot j f d e
    refine ⟨w, by rw [he j hn]; exact e1, ?_⟩
    rcases q with ⟨a, h1, h2, h3, t⟩ | ⟨h1, h2, r⟩
    · exact .inl ⟨a, by simp [owW, hn, h1], h2, h3, t.frm F rfl⟩
    · exact .inr ⟨by simp [owW, hn, h1], h2, r.frm F⟩
  · by_cases e1 : j ∈ own
    · simp [owW, e1] at h1
    · by_cases e2 : k ∈ own
      · simp [owW, e2] at h2
      · simp [owW, e1] at h1; simp [owW, e2] at h2; exact S.inj j k a h1 h2
  · by_cases e1 : j ∈ own
    · simp [owW, e1] at e
    · simp [owW, e1] at e; exact S.owN j a e
end

/-! a slot's own object is let go -/
theorem r_rel {X : Cx} {cf : Cf} {i : Nat} {e : Expr} (h : PE X e (tVar i)) : PE X e (T cf (.rel i)) := by
  refine PE.mk' h fun σ H Q z ⟨g, tmp, ow, env, s, d, env', s', S, he, k⟩ => ?_
  have h1 : ∃ f d0, env[i]? = some (some (f, d0)) ∧ some (d0, env.set i (some (false, d0)), s) = some (d, env', s') := by
    simp only [ev] at he
    split at he
    · exact ⟨_, _, by assumption, he⟩
    · cases he
  obtain ⟨f, d0, h1, he⟩ := h1
  simp only [Option.some.injEq, Prod.mk.injEq] at he
  obtain ⟨rfl, rfl, rfl⟩ := he
  obtain ⟨v, e1, q⟩ := S.slot i _ _ h1
  refine ⟨v, e1, fun z' => ?_⟩
  obtain ⟨S', sub⟩ := S.give i
  have F : Frm (Av g tmp ow) (Av g tmp (oX i ow)) tmp H H := frm_shrink fun a z => oX_sub z
  have rv : Rep g.aS (Av g tmp (oX i ow)) H v d0 := by
    rcases q with ⟨a, h2, h3, rfl, t⟩ | ⟨h2, h3, r⟩
    · refine (t.frm F rfl).rep ?_
      obtain ⟨n1, _, n2, n3, n4⟩ := S.owN i a h2
      rintro (y | y | y | y | ⟨j, y⟩)
      · exact n2 y
      · exact n3 y
      · exact n4 y
      · exact n1 y
      · by_cases e : j = i
        · simp [oX, e] at y
        · simp [oX, e] at y; exact e (S.inj j i a y h2)
    · exact r.frm F
  have S2 : Stt g tmp (oX i ow) σ H (env.set i none) s := S'
  obtain ⟨S3, F3⟩ := S2.put (i := i) rv false (fun h => by cases h)
  have e3 : (env.set i none).set i (some (false, d0)) = env.set i (some (false, d0)) := by rw [List.set_set]
  have e4 : σ.set i (some v) = σ := by
    apply List.ext_getElem?
    intro j
    by_cases hj : j = i
    · subst hj
      have hl : j < σ.length := by
        by_cases hl : j < σ.length
        · exact hl
        · rw [List.getElem?_eq_none (by simpa using hl)] at e1; cases e1
      rw [List.getElem?_set_self hl, e1]
    · rw [List.getElem?_set_ne (Ne.symm hj)]
  rw [e3, e4] at S3
  exact k _ H tmp _ z' S3 (F.trans F3 fun _ h => h) (.inl ⟨rfl, rv.frm F3, fun h => by cases h⟩)

/-! targets -/
mutual
def TGt (K : PySem.W.Frag) : Tg → TG
  | .nm i => gName i
  | .tp ts => gTup K ts.length (TGts K ts)
def TGts (K : PySem.W.Frag) : List Tg → TGs
  | [] => gNil
  | t :: ts => gCons (TGt K t) (TGts K ts)
end
mutual
def Tg.slots : Tg → List Nat
  | .nm i => [i]
  | .tp ts => Tg.slotsL ts
def Tg.slotsL : List Tg → List Nat
  | [] => []
  | t :: ts => t.slots ++ Tg.slotsL ts
end
theorem bindTs_length : ∀ {ts : List Tg} {ds : List D} {env env' : Env}, bindTs ts ds env = some env' → ts.length = ds.length
  | [], [], _, _, _ => rfl
  | [], _ :: _, _, _, h => by simp [bindTs] at h
  | _ :: _, [], _, _, h => by simp [bindTs] at h
  | t :: ts, d :: ds, env, env', h => by
    simp only [bindTs] at h
    split at h
    · rw [List.length_cons, List.length_cons, bindTs_length h]
    · cases h
mutual
theorem bind_run {K : PySem.W.Frag} {g : Gp} {tmp : List Addr} {H : Hp} {s : Sr} : ∀ {tg : Tg} {v : V} {d : D} {ow : Ow} {σ : St} {env env' : Env} {Q : St → Hp → Prop}, Stt g tmp ow σ H env s → Rep g.aS (Av g tmp ow) H v d → bindT tg d env = some env' →
    (∀ σ' ow', Stt g tmp ow' σ' H env' s → Frm (Av g tmp ow) (Av g tmp ow') tmp H H → σ'.length = σ.length → (∀ j, j ∉ tg.slots → σ'[j]? = σ[j]?) → Q σ' H) → TGt K tg v σ H Q
  | .nm i, v, d, ow, σ, env, env', Q, S, r, hb, k => by
    have e : env' = env.set i (some (false, d)) := by
      simp only [bindT] at hb
      split at hb
      · cases hb
      · cases hb; rfl
    subst e
    obtain ⟨S', F⟩ := S.put (i := i) r false (fun h => by cases h)
    refine k _ _ S' F (by rw [List.length_set]) fun j hj => ?_
    exact List.getElem?_set_ne (fun e => hj (by simp [Tg.slots, e]))
  | .tp ts, v, d, ow, σ, env, env', Q, S, r, hb, k => by
    cases d with
    | tup ds =>
      simp only [bindT] at hb
      cases r with
      | tup na ha rl =>
        exact ⟨_, _, rfl, ha.sq, by rw [rl.length, bindTs_length hb], bindTs_run S rl hb fun σ' ow' S' F hl hs => k σ' ow' S' F hl hs⟩
    | _ => simp [bindT] at hb
theorem bindTs_run {K : PySem.W.Frag} {g : Gp} {tmp : List Addr} {H : Hp} {s : Sr} : ∀ {ts : List Tg} {vs : List V} {ds : List D} {ow : Ow} {σ : St} {env env' : Env} {Q : St → Hp → Prop}, Stt g tmp ow σ H env s → RepL g.aS (Av g tmp ow) H vs ds → bindTs ts ds env = some env' →
    (∀ σ' ow', Stt g tmp ow' σ' H env' s → Frm (Av g tmp ow) (Av g tmp ow') tmp H H → σ'.length = σ.length → (∀ j, j ∉ Tg.slotsL ts → σ'[j]? = σ[j]?) → Q σ' H) → TGts K ts vs σ H Q
  | [], vs, ds, ow, σ, env, env', Q, S, r, hb, k => by
    cases ds with
    | nil =>
      cases r
      cases hb
      exact ⟨rfl, k σ ow S .refl rfl fun _ _ => rfl⟩
    | cons d ds => simp [bindTs] at hb
  | t :: ts, vs, ds, ow, σ, env, env', Q, S, r, hb, k => by
    cases ds with
    | nil => simp [bindTs] at hb
    | cons d ds =>
      cases r with
      | cons r1 rr =>
        simp only [bindTs] at hb
        split at hb
        · rename_i env1 h1
          refine ⟨_, _, rfl, bind_run S r1 h1 fun σ1 ow1 S1 F1 hl1 hs1 => ?_⟩
          refine bindTs_run S1 (rr.frm F1) hb fun σ2 ow2 S2 F2 hl2 hs2 => ?_
          refine k σ2 ow2 S2 (F1.trans F2 fun _ h => h) (hl2.trans hl1) fun j hj => ?_
          simp only [Tg.slotsL, List.mem_append, not_or] at hj
          rw [hs2 j hj.2, hs1 j hj.1]
        · cases hb
end
theorem g_name {X : Cx} {i : Nat} {x : Str} {pos : Pos} (hN : X.N.Nodup) (hi : X.N[i]? = some x) (hx : Loc X.env.scope x) (hf : X.fn x = true ∨ X.env.scope.names.lookup x = some .local := by first | exact .inl rfl | exact .inr rfl | assumption) : PG X (.Name x pos) (TGt X.K (.nm i)) := pg_name hN hi hx hf
theorem g_nil {X : Cx} : PGs X [] (TGts X.K []) := pgs_nil
theorem g_cons {X : Cx} {e : Expr} {es : List Expr} {t : Tg} {ts : List Tg} (h1 : PG X e (TGt X.K t)) (h2 : PGs X es (TGts X.K ts)) (hs : (assignEach (e :: es) X.env).map (·.2) = assign e X.env :: (assignEach es X.env).map (·.2) := by rfl) : PGs X (e :: es) (TGts X.K (t :: ts)) := pgs_cons h1 h2 hs
theorem g_tup {X : Cx} {es : List Expr} {k : Nat} {pos : Pos} {ts : List Tg} (hc : X.calm = true) (h : PGs X es (TGts X.K ts)) (hn : (assignEach es X.env).length = ts.length := by rfl) (hst : (assignEach es X.env).findIdx? (·.1) = none := by rfl) : PG X (.Tuple es k pos) (TGt X.K (.tp ts)) := pg_tup hc h hn hst
end Rf
end

section
set_option linter.all false
set_option Elab.async false
set_option maxRecDepth 100000
namespace Rf
open PySem L2

/-! what is walked -/
/-- kinds whose turns make a pair -/
def prK : Ik → Bool
  | .enum => true
  | .zip => true
  | .items => true
  | _ => false
def okT : Tg → Ik → Bool
  | .tp _, _ => true
  | .nm _, k => !prK k
def Yl (k : Ik) (aS : AS) (A : Addr → Prop) (H : Hp) (d : D) (v : V) (H'' : Hp) : Prop :=
  (H'' = H ∧ Rep aS A H v d) ∨ (prK k = true ∧ ∃ p us ds, v = .ref p ∧ H p = none ∧ H'' = upd H p (.tup us) ∧ d = .tup ds ∧ RepL aS A H us ds)
structure ItOk (k : Ik) (aS : AS) (A : Addr → Prop) (J : It) (H : Hp) (xs : List D) : Prop where
  len : xs.length ≤ szLine
  go : ∀ A' H' i, Frm A A' [] H H' → i < xs.length → J.go i H'
  stop : ∀ A' H' i, Frm A A' [] H H' → i = xs.length → J.stop i H'
  yld : ∀ A' H' i d v H'', Frm A A' [] H H' → xs[i]? = some d → J.yld i H' v H'' → Yl k aS A' H' d v H''
def TIof (cf : Cf) (k : Ik) (es : List Ex) : TI := fun σ H R => ∃ g tmp ow env s ds xs env' s', Stt g tmp ow σ H env s ∧ evOs cf es env s = some (ds, env', s') ∧ walk k ds = some xs ∧
  ∀ J H' ow', SzOk H' → Stt g tmp ow' σ H' env' s' → Frm (Av g tmp ow) (Av g tmp ow') tmp H H' → ItOk k g.aS (Av g tmp ow') J H' xs → R J H'
theorem Frm.bare {A A' : Addr → Prop} {t : List Addr} {H H' : Hp} (f : Frm A A' t H H') : Frm A A' [] H H' := ⟨f.keep, f.grow, fun _ h => by cases h⟩
theorem yl_bind {K : PySem.W.Frag} {k : Ik} {gg : Tg} {g : Gp} {tmp : List Addr} {ow : Ow} {σ : St} {H H'' : Hp} {env env' : Env} {s : Sr} {d : D} {v : V} {Q : St → Hp → Prop} (S : Stt g tmp ow σ H env s) (y : Yl k g.aS (Av g tmp ow) H d v H'') (hk : okT gg k = true) (hb : bindT gg d env = some env')
    (kont : ∀ σ' ow', Stt g tmp ow' σ' H'' env' s → Frm (Av g tmp ow) (Av g tmp ow') tmp H H'' → σ'.length = σ.length → (∀ j, j ∉ gg.slots → σ'[j]? = σ[j]?) → Q σ' H'') : TGt K gg v σ H'' Q := by
  rcases y with ⟨rfl, r⟩ | ⟨hp, p, us, ds, rfl, hn, rfl, rfl, r⟩
  · exact bind_run S r hb kont
  · cases gg with
    | nm i => simp [okT, hp] at hk
    | tp ts =>
      have F : Frm (Av g tmp ow) (Av g tmp ow) tmp H (upd H p (.tup us)) := frm_alloc S.tmpAlive hn
      simp only [bindT] at hb
      refine ⟨p, us, rfl, SqT.of upd_same, by rw [r.length, bindTs_length hb], bindTs_run (S.alloc hn) (r.frm F) hb fun σ' ow' S' F' hl hs => kont σ' ow' S' (F.trans F' fun _ h => h) hl hs⟩
section
variable {X : Cx} {cf : Cf} {tg iter a b c e l : Expr} {x y w : Ex} {pos p : Pos} {es : List Expr} {xs : List Ex}
theorem PI.mk' {wi wi' : TI} (h : PI X tg iter wi) (k : ∀ σ H R, SzOk H → wi' σ H R → wi σ H (fun J H1 => SzOk H1 → R J H1)) : PI X tg iter wi' :=
  ⟨fun pins s σ H R I hw => thn (h.run pins s σ H _ I (k σ H R (szOk_of I) hw)) fun v s1 h1 => thn h1 fun u s2 ⟨it, fp, tn, J, H', e, I', t, t0, f, q⟩ => ⟨it, fp, tn, J, H', e, I', t, t0, f, q (szOk_of I')⟩⟩
theorem PI.alt {wi wi' : TI} (h : PI X tg iter wi) (h' : PI X tg iter wi') : PI X tg iter (fun σ H R => wi σ H R ∨ wi' σ H R) :=
  ⟨fun pins s σ H R I hw => hw.elim (h.run pins s σ H R I) (h'.run pins s σ H R I)⟩
/-- operands that are no bare names -/
theorem ops_runR {g : Gp} {tmp : List Addr} {σ : St} : ∀ {es : List Ex} {ow : Ow} {H : Hp} {env env' : Env} {s s' : Sr} {ds : List D} {K : List V → Hp → Prop}, (∀ x ∈ es, nob x = true) → Stt g tmp ow σ H env s → evOs cf es env s = some (ds, env', s') → SzOk H →
    (∀ vs H' ow', SzOk H' → Stt g tmp ow' σ H' env' s' → Frm (Av g tmp ow) (Av g tmp ow') tmp H H' → RepL g.aS (Av g tmp ow') H' vs ds → K vs H') → TOs cf es σ H K
  | [], ow, H, env, env', s, s', ds, K, hn, S, he, z, k => by
    simp only [evOs, Option.some.injEq, Prod.mk.injEq] at he
    obtain ⟨rfl, rfl, rfl⟩ := he
    exact k [] H ow z S .refl .nil
  | e :: es, ow, H, env, env', s, s', ds, K, hn, S, he, z, k => by
    show TO cf e σ H fun x H1 => TOs cf es σ H1 fun xs H2 => K (x :: xs) H2
    have n1 := hn e List.mem_cons_self
    have ht : TO cf e = T cf e := by cases e <;> first | rfl | simp [nob] at n1
    rw [ht]
    obtain ⟨d, ds1, env1, s1, rfl, h1, h2⟩ := evOs_nob n1 he
    refine T.weak S h1 fun v H1 ow1 z1 S1 F1 r1 => ops_runR (fun x hx => hn x (List.mem_cons_of_mem _ hx)) S1 h2 z1 fun vs H' ow' z' S' F r => ?_
    exact k _ H' ow' z' S' (F1.trans F fun _ h => h) (.cons (r1.frm F) r)
theorem it_list {K : PySem.W.Frag} {aS : AS} {A : Addr → Prop} {H : Hp} {v : V} {ds : List D} (z : SzOk H) (r : Rep aS A H v (.lst ds)) : ∃ p, v = .ref p ∧ (∃ xs, SqL K H p xs) ∧ ItOk .seq aS A (Itl K p) H ds := by
  cases r with
  | @lst p us _ na ha rl =>
    refine ⟨p, rfl, ⟨us, SqL.of ha⟩, by rw [← rl.length]; exact z p us (.inl ha), fun A' H' i f hi => ?_, fun A' H' i f hi => ?_, fun A' H' i d v H'' f hd hy => ?_⟩
    · exact ⟨us, us[i]'(by rw [rl.length]; exact hi), SqL.of (f.keep _ _ na ha), List.getElem?_eq_getElem _⟩
    · exact ⟨us, SqL.of (f.keep _ _ na ha), by rw [rl.length]; omega⟩
    · obtain ⟨rfl, hy⟩ := hy
      obtain ⟨u, hu, ru⟩ := rl.get hd
      have := hy us (SqL.of (f.keep _ _ na ha))
      rw [hu] at this
      cases this
      exact .inl ⟨rfl, ru.frm f⟩
theorem it_tup {K : PySem.W.Frag} {aS : AS} {A : Addr → Prop} {H : Hp} {v : V} {ds : List D} (z : SzOk H) (r : Rep aS A H v (.tup ds)) : ∃ p, v = .ref p ∧ (∃ xs, SqT K H p xs) ∧ ItOk .seq aS A (Itt K p) H ds := by
  cases r with
  | @tup p us _ na ha rl =>
    refine ⟨p, rfl, ⟨us, ha.sq⟩, by rw [← rl.length]; exact z p us (.inr ha.rd), fun A' H' i f hi => ?_, fun A' H' i f hi => ?_, fun A' H' i d v H'' f hd hy => ?_⟩
    · exact ⟨us, us[i]'(by rw [rl.length]; exact hi), (ha.keep fun o e => f.keep _ _ na e).sq, List.getElem?_eq_getElem _⟩
    · exact ⟨us, (ha.keep fun o e => f.keep _ _ na e).sq, by rw [rl.length]; omega⟩
    · obtain ⟨rfl, hy⟩ := hy
      obtain ⟨u, hu, ru⟩ := rl.get hd
      have := hy us ((ha.keep fun o e => f.keep _ _ na e).sq)
      rw [hu] at this
      cases this
      exact .inl ⟨rfl, ru.frm f⟩
theorem walk_seq {ds xs : List D} (h : walk .seq ds = some xs) : ∃ d, ds = [d] ∧ (d = .lst xs ∨ d = .tup xs) := by
  match ds, h with
  | [d], h => exact ⟨d, rfl, items_split h⟩
theorem i_seq (hl : PE X l (T cf x)) (hn : nob x = true := by rfl) : PI X tg l (TIof cf .seq [x]) := by
  refine PI.mk' (PI.alt (pi_list hl) (pi_tup hl)) fun σ H R z ⟨g, tmp, ow, env, s, ds, xs, env', s', S, he, hw, k⟩ => ?_
  obtain ⟨d, rfl, hd⟩ := walk_seq hw
  obtain ⟨d1, ds1, env1, s1, q, h1, h2⟩ := evOs_nob hn he
  cases q
  have h2 : some (([] : List D), env1, s1) = some (([] : List D), env', s') := h2
  simp only [Option.some.injEq, Prod.mk.injEq, true_and] at h2
  obtain ⟨rfl, rfl⟩ := h2
  rcases hd with rfl | rfl
  · refine .inl (T.weak S h1 fun v H1 ow1 z1 S1 F1 r1 => ?_)
    obtain ⟨p, rfl, ex, it⟩ := it_list (K := X.K) z1 r1
    exact ⟨p, rfl, ex, fun _ => k _ H1 ow1 z1 S1 F1 it⟩
  · refine .inr (T.weak S h1 fun v H1 ow1 z1 S1 F1 r1 => ?_)
    obtain ⟨p, rfl, ex, it⟩ := it_tup (K := X.K) z1 r1
    exact ⟨p, rfl, ex, fun _ => k _ H1 ow1 z1 S1 F1 it⟩
/-- ranges -/
theorem rangeD_get {a b c : Int} {xs : List D} (h : rangeD a b c = some xs) : ∃ n : Nat, xs.length = n ∧ n ≤ szLine ∧ (c ≠ 0 ∧ c.natAbs < 1073741824 ∧ a.natAbs < 1073741824 ∧ b.natAbs < 1073741824) ∧ (n : Int) = Builtin.Range.rangeSize a b c ∧ (∀ i d, xs[i]? = some d → d = D.int (a + (i : Nat) * c)) ∧ xs = (List.range n).map fun (i : Nat) => D.int (a + (i : Int) * c) := by
  unfold rangeD at h
  split at h
  · rename_i hc
    have h' : (if (Builtin.Range.rangeSize a b c).toNat ≤ szLine then some ((List.range (Builtin.Range.rangeSize a b c).toNat).map fun (i : Nat) => D.int (a + (i : Int) * c)) else none) = some xs := h
    by_cases hl : (Builtin.Range.rangeSize a b c).toNat ≤ szLine
    · rw [if_pos hl] at h'
      have h0 : 0 ≤ Builtin.Range.rangeSize a b c := by
        unfold Builtin.Range.rangeSize
        split
        · split
          · have := Int.ediv_nonneg (a := b - a - 1) (b := c) (by omega) (by omega); omega
          · omega
        · split
          · have := Int.ediv_nonneg (a := a - b - 1) (b := -c) (by omega) (by omega); omega
          · omega
      generalize hn : (Builtin.Range.rangeSize a b c).toNat = n at h' hl
      cases h'
      refine ⟨n, by rw [List.length_map, List.length_range], hl, hc, by rw [← hn]; exact Int.toNat_of_nonneg h0, fun i d hd => ?_, rfl⟩
      rw [List.getElem?_map, Option.map_eq_some_iff] at hd
      obtain ⟨j, hj, rfl⟩ := hd
      obtain ⟨_, hj⟩ := List.getElem?_eq_some_iff.mp hj
      rw [List.getElem_range] at hj
      rw [hj]
    · rw [if_neg hl] at h'
      cases h'
  · cases h
theorem it_rng {kk : Ik} {aS : AS} {A : Addr → Prop} {H : Hp} {lo : Int} {n : Nat} {xs : List D} (h1 : xs.length = n) (h2 : n ≤ szLine) (h3 : ∀ i d, xs[i]? = some d → d = D.int (lo + (i : Nat) * 1)) : ItOk kk aS A (Itr lo n) H xs := by
  refine ⟨by omega, fun A' H' i f hi => ?_, fun A' H' i f hi => ?_, fun A' H' i d v H'' f hd hy => ?_⟩
  · show i < n; omega
  · show n ≤ i; omega
  · obtain ⟨rfl, rfl⟩ := hy
    rw [h3 i d hd]
    refine .inl ⟨rfl, ?_⟩
    have : lo + (i : Int) = lo + (i : Int) * 1 := by omega
    rw [this]
    exact .int _
theorem walk_r1 {ds xs : List D} (h : walk .rng1 ds = some xs) : ∃ b, ds = [.int b] ∧ rangeD 0 b 1 = some xs := by
  match ds, h with
  | [.int b], h => exact ⟨b, rfl, h⟩
theorem walk_r2 {ds xs : List D} (h : walk .rng2 ds = some xs) : ∃ a b, ds = [.int a, .int b] ∧ rangeD a b 1 = some xs := by
  match ds, h with
  | [.int a, .int b], h => exact ⟨a, b, rfl, h⟩
theorem walk_r3 {ds xs : List D} (h : walk .rng3 ds = some xs) : ∃ a b c, ds = [.int a, .int b, .int c] ∧ rangeD a b c = some xs := by
  match ds, h with
  | [.int a, .int b, .int c], h => exact ⟨a, b, c, rfl, h⟩
theorem i_rng1 (hg : Gl X "range") (hm : X.mg "range" = none) (ha : PA X [a] (TOs cf [x])) (hs : starEach [a] X.env = [(false, eval a X.env)] := by rfl) : PI X tg (.Call (.Name "range" p) [a] [] pos) (TIof cf .rng1 [x]) := by
  refine PI.mk' (pi_range1 hg hm ha hs) fun σ H R z ⟨g, tmp, ow, env, s, ds, xs, env', s', S, he, hw, k⟩ => ?_
  obtain ⟨b, rfl, hr⟩ := walk_r1 hw
  obtain ⟨n, h1, h2, h3, h4, h5, _⟩ := rangeD_get hr
  refine ops_run S he z fun vs H1 ow1 z1 S1 F1 r1 => ?_
  obtain ⟨v, rfl, rv⟩ := r1.one
  obtain rfl := rv.int
  have e : n = b.toNat := by
    have h4 : (n : Int) = if (1 : Int) > 0 then (if 0 < b then (b - 0 - 1) / 1 + 1 else 0) else _ := h4
    rw [if_pos (by decide)] at h4
    split at h4
    · rw [Int.ediv_one] at h4; omega
    · omega
  refine ⟨b, rfl, by omega, by omega, fun _ => k _ H1 ow1 z1 S1 F1 ?_⟩
  rw [← e]
  exact it_rng h1 h2 h5
theorem i_rng2 (hg : Gl X "range") (hm : X.mg "range" = none) (ha : PA X [a, b] (TOs cf [x, y])) (hs : starEach [a, b] X.env = [(false, eval a X.env), (false, eval b X.env)] := by rfl) (hs2 : starEach [b] X.env = [(false, eval b X.env)] := by rfl) : PI X tg (.Call (.Name "range" p) [a, b] [] pos) (TIof cf .rng2 [x, y]) := by
  refine PI.mk' (pi_range2 hg hm ha hs hs2) fun σ H R z ⟨g, tmp, ow, env, s, ds, xs, env', s', S, he, hw, k⟩ => ?_
  obtain ⟨a, b, rfl, hr⟩ := walk_r2 hw
  obtain ⟨n, h1, h2, h3, h4, h5, _⟩ := rangeD_get hr
  refine ops_run S he z fun vs H1 ow1 z1 S1 F1 r1 => ?_
  obtain ⟨v, w, rfl, rv, rw_⟩ := r1.two
  obtain rfl := rv.int
  obtain rfl := rw_.int
  have e : n = (b - a).toNat := by
    have h4 : (n : Int) = if (1 : Int) > 0 then (if a < b then (b - a - 1) / 1 + 1 else 0) else _ := h4
    rw [if_pos (by decide)] at h4
    split at h4
    · rw [Int.ediv_one] at h4; omega
    · omega
  refine ⟨a, b, rfl, by omega, fun _ => k _ H1 ow1 z1 S1 F1 ?_⟩
  rw [← e]
  exact it_rng h1 h2 h5
theorem rg_small {a b c : Int} {n : Nat} (h3 : c ≠ 0 ∧ c.natAbs < 1073741824 ∧ a.natAbs < 1073741824 ∧ b.natAbs < 1073741824) (h2 : n ≤ szLine) (h4 : (n : Int) = Builtin.Range.rangeSize a b c) : RgC a b c n := by
  refine ⟨h3.1, h3.2.1, ?_, h4.symm⟩
  have hs : szLine = 16777216 := rfl
  unfold Builtin.Range.small
  rw [← h4]
  simp only [Builtin.Range.rangeFitsLong, Bool.and_eq_true, Bool.or_eq_true, decide_eq_true_eq, beq_iff_eq]
  refine ⟨⟨⟨⟨?_, ?_⟩, ?_⟩, ?_⟩, .inr ?_⟩ <;> first | omega | skip
  split <;> simp only [Bool.and_eq_true, decide_eq_true_eq] <;> omega
theorem i_rng3 (hg : Gl X "range") (hm : X.mg "range" = none) (ha : PA X [a, b, c] (TOs cf [x, y, w])) (hs : starEach [a, b, c] X.env = (false, eval a X.env) :: starEach [b, c] X.env := by rfl) (hpl : (backTo pos (starEach [b, c] X.env)).any (·.1) = false := by rfl) : PI X tg (.Call (.Name "range" p) [a, b, c] [] pos) (TIof cf .rng3 [x, y, w]) := by
  refine PI.mk' (pi_range3 hg hm ha hs hpl) fun σ H R z ⟨g, tmp, ow, env, s, ds, xs, env', s', S, he, hw, k⟩ => ?_
  obtain ⟨a, b, c, rfl, hr⟩ := walk_r3 hw
  obtain ⟨n, h1, h2, h3, h4, h5, _⟩ := rangeD_get hr
  refine ops_run S he z fun vs H1 ow1 z1 S1 F1 r1 => ?_
  obtain ⟨v, w, u, rfl, rv, rw_, ru⟩ := r1.three
  obtain rfl := rv.int
  obtain rfl := rw_.int
  obtain rfl := ru.int
  refine ⟨a, b, c, n, rfl, rg_small h3 h2 h4, fun _ => k _ H1 ow1 z1 S1 F1 ⟨by omega, fun A' H' i f hi => ?_, fun A' H' i f hi => ?_, fun A' H' i d v H'' f hd hy => ?_⟩⟩
  · show i < n; omega
  · show n ≤ i; omega
  · obtain ⟨rfl, rfl⟩ := hy
    rw [h5 i d hd]
    exact .inl ⟨rfl, .int _⟩

/-! zip, enumerate -/
theorem walk_zip {ds zs : List D} (h : walk .zip ds = some zs) : ∃ xs ys, zs = List.zipWith (fun a b => D.tup [a, b]) xs ys ∧ (ds = [.lst xs, .lst ys] ∨ ds = [.tup xs, .tup ys]) := by
  match ds, h with
  | [.lst xs, .lst ys], h => cases h; exact ⟨xs, ys, rfl, .inl rfl⟩
  | [.tup xs, .tup ys], h => cases h; exact ⟨xs, ys, rfl, .inr rfl⟩
theorem zip_get {xs ys : List D} {i : Nat} {d : D} (h : (List.zipWith (fun a b => D.tup [a, b]) xs ys)[i]? = some d) : ∃ a b, xs[i]? = some a ∧ ys[i]? = some b ∧ d = .tup [a, b] := by
  rw [List.getElem?_zipWith] at h
  cases ha : xs[i]? with
  | none => rw [ha] at h; cases h
  | some a =>
    cases hb : ys[i]? with
    | none => rw [ha, hb] at h; cases h
    | some b => rw [ha, hb] at h; cases h; exact ⟨a, b, rfl, rfl, rfl⟩
theorem i_zip {elts : List Expr} {kk : Nat} {tpos : Pos} (hg : Gl X "zip") (hm : X.mg "zip" = none) (ha : PA X [a, b] (TOs cf [x, y]))
    (hs : starEach [a, b] X.env = (false, eval a X.env) :: starEach [b] X.env := by rfl) (hpl : (backTo pos (starEach [b] X.env)).any (·.1) = false := by rfl) (hx : nob x = true := by rfl) (hy : nob y = true := by rfl) :
    PI X (.Tuple elts kk tpos) (.Call (.Name "zip" p) [a, b] [] pos) (TIof cf .zip [x, y]) := by
  refine PI.mk' (RZ.pi_zipA hg hm ha hs hpl) fun σ H R z ⟨g, tmp, ow, env, s, ds, zs, env', s', S, he, hw, k⟩ => ?_
  obtain ⟨xs, ys, rfl, hd⟩ := walk_zip hw
  refine ops_runR (fun e h => by rcases List.mem_cons.mp h with rfl | h; · exact hx
                                 · rcases List.mem_cons.mp h with rfl | h; · exact hy
                                   · cases h) S he z fun vs H1 ow1 z1 S1 F1 r1 => ?_
  rcases hd with rfl | rfl
  · cases r1 with | cons ra r1 => cases r1 with | cons rb r1 =>
    cases r1
    cases ra with | @lst p us _ na hp ra =>
    cases rb with | @lst q ws _ nb hq rb =>
    refine ⟨p, q, us, ws, rfl, .inl ⟨SqL.of hp, SqL.of hq, fun _ => k _ H1 ow1 z1 S1 F1 ?_⟩⟩
    refine ⟨by rw [List.length_zipWith, ← ra.length, ← rb.length]; have := z1 p us (.inl hp); omega, fun A' H' i f hi => ?_, fun A' H' i f hi => ?_, fun A' H' i d v H'' f hd hy => ?_⟩
    · rw [List.length_zipWith, ← ra.length, ← rb.length] at hi
      exact ⟨us, ws, us[i]'(by omega), ws[i]'(by omega), SqL.of (f.keep _ _ na hp), SqL.of (f.keep _ _ nb hq), List.getElem?_eq_getElem _, List.getElem?_eq_getElem _⟩
    · rw [List.length_zipWith, ← ra.length, ← rb.length] at hi
      exact ⟨us, ws, SqL.of (f.keep _ _ na hp), SqL.of (f.keep _ _ nb hq), by omega⟩
    · obtain ⟨a, b, e1, e2, rfl⟩ := zip_get hd
      obtain ⟨t, u, w, rfl, ht, rfl, h1, h2⟩ := hy
      obtain ⟨u', hu, ru⟩ := ra.get e1
      obtain ⟨w', hw, rw_⟩ := rb.get e2
      have q1 := h1 us (SqL.of (f.keep _ _ na hp))
      have q2 := h2 ws (SqL.of (f.keep _ _ nb hq))
      rw [hu] at q1
      rw [hw] at q2
      cases q1
      cases q2
      exact .inr ⟨rfl, t, _, _, rfl, ht, rfl, rfl, .cons (ru.frm f) (.cons (rw_.frm f) .nil)⟩
  · cases r1 with | cons ra r1 => cases r1 with | cons rb r1 =>
    cases r1
    cases ra with | @tup p us _ na hp ra =>
    cases rb with | @tup q ws _ nb hq rb =>
    refine ⟨p, q, us, ws, rfl, .inr ⟨hp.sq, hq.sq, fun _ => k _ H1 ow1 z1 S1 F1 ?_⟩⟩
    refine ⟨by rw [List.length_zipWith, ← ra.length, ← rb.length]; have := z1 p us (.inr hp.rd); omega, fun A' H' i f hi => ?_, fun A' H' i f hi => ?_, fun A' H' i d v H'' f hd hy => ?_⟩
    · rw [List.length_zipWith, ← ra.length, ← rb.length] at hi
      exact ⟨us, ws, us[i]'(by omega), ws[i]'(by omega), (hp.keep fun o e => f.keep _ _ na e).sq, (hq.keep fun o e => f.keep _ _ nb e).sq, List.getElem?_eq_getElem _, List.getElem?_eq_getElem _⟩
    · rw [List.length_zipWith, ← ra.length, ← rb.length] at hi
      exact ⟨us, ws, (hp.keep fun o e => f.keep _ _ na e).sq, (hq.keep fun o e => f.keep _ _ nb e).sq, by omega⟩
    · obtain ⟨a, b, e1, e2, rfl⟩ := zip_get hd
      obtain ⟨t, u, w, rfl, ht, rfl, h1, h2⟩ := hy
      obtain ⟨u', hu, ru⟩ := ra.get e1
      obtain ⟨w', hw, rw_⟩ := rb.get e2
      have q1 := h1 us ((hp.keep fun o e => f.keep _ _ na e).sq)
      have q2 := h2 ws ((hq.keep fun o e => f.keep _ _ nb e).sq)
      rw [hu] at q1
      rw [hw] at q2
      cases q1
      cases q2
      exact .inr ⟨rfl, t, _, _, rfl, ht, rfl, rfl, .cons (ru.frm f) (.cons (rw_.frm f) .nil)⟩
end
end Rf
end

section
set_option linter.all false
set_option Elab.async false
set_option maxRecDepth 100000
namespace Rf
open PySem L2

section
variable {g : Gp} {tmp : List Addr} {ow : Ow} {σ : St} {H : Hp} {env : Env} {s : Sr} {i : Nat} {v : V} {d : D}
/-- a held object's content changes -/
theorem Stt.chgTmp {a : Addr} (S : Stt g (a :: tmp) ow σ H env s) {o : HO} : Stt g (a :: tmp) ow σ (upd H a o) env s ∧ Frm (Av g (a :: tmp) ow) (Av g (a :: tmp) ow) tmp H (upd H a o) := by
  have ha : Av g (a :: tmp) ow a := .inr (.inr (.inr (.inl List.mem_cons_self)))
  obtain ⟨n0, n1, n2, n3⟩ := S.tmN a List.mem_cons_self
  have nt : a ∉ tmp := (List.nodup_cons.mp S.tmD).1
  have F : Frm (Av g (a :: tmp) ow) (Av g (a :: tmp) ow) tmp H (upd H a o) := by
    refine ⟨fun b u hn q => ?_, fun b z => .inl z, fun b hb => upd_ne (fun e => nt (e ▸ hb))⟩
    have hne : b ≠ a := fun e => hn (by rw [e]; exact ha)
    rw [upd_ne hne]; exact q
  refine ⟨⟨S.len, fun j f d e => ?_, S.inj, S.owN, S.tmN, S.tmD, fun b z q => ?_, fun b u q h1 h2 => ?_, ⟨?_, ?_, S.src.fz⟩⟩, F⟩
  · obtain ⟨w, e1, z⟩ := S.slot j f d e
    refine ⟨w, e1, ?_⟩
    rcases z with ⟨b, h1, h2, h3, t⟩ | ⟨h1, h2, r⟩
    · refine .inl ⟨b, h1, h2, h3, t.frm F (upd_ne fun e => ?_)⟩
      subst e
      exact (S.owN j _ h1).1 List.mem_cons_self
    · exact .inr ⟨h1, h2, r.frm F⟩
  · by_cases e : b = a
    · rw [e, upd_same] at q; cases q
    · rw [upd_ne e] at q; exact S.alive b z q
  · have : b ≠ a := fun e => by rw [e, n0] at q; cases q
    rw [upd_ne this]; exact S.same b u q h1 h2
  · rw [upd_ne (Ne.symm n2)]; exact S.src.dic
  · rw [upd_ne (Ne.symm n3)]; exact S.src.cel
/-- a slot's own object changes -/
theorem Stt.chgOwn {a : Addr} (S : Stt g tmp ow σ H env s) (ho : ow i = some a) {f : Bool} {d0 : D} (he : env[i]? = some (some (f, d0))) {o : HO} {d' : D} (t : Top g.aS (Av g tmp ow) (upd H a o) a d') :
    Stt g tmp ow σ (upd H a o) (env.set i (some (true, d'))) s ∧ Frm (Av g tmp ow) (Av g tmp ow) tmp H (upd H a o) := by
  have ha : Av g tmp ow a := .inr (.inr (.inr (.inr ⟨i, ho⟩)))
  obtain ⟨nt, n0, n1, n2, n3⟩ := S.owN i a ho
  have F : Frm (Av g tmp ow) (Av g tmp ow) tmp H (upd H a o) := by
    refine ⟨fun b u hn q => ?_, fun b z => .inl z, fun b hb => upd_ne (fun e => nt (e ▸ hb))⟩
    have hne : b ≠ a := fun e => hn (by rw [e]; exact ha)
    rw [upd_ne hne]; exact q
  refine ⟨⟨by rw [List.length_set]; exact S.len, fun j f d e => ?_, S.inj, S.owN, S.tmN, S.tmD, fun b z q => ?_, fun b u q h1 h2 => ?_, ⟨?_, ?_, S.src.fz⟩⟩, F⟩
  · by_cases hj : j = i
    · subst hj
      have hl : j < env.length := by
        by_cases hl : j < env.length
        · exact hl
        · rw [List.getElem?_eq_none (by simpa using hl)] at e; cases e
      rw [List.getElem?_set_self hl] at e
      cases e
      obtain ⟨w, e1, z⟩ := S.slot j _ _ he
      rcases z with ⟨b, h1, h2, h3, t'⟩ | ⟨h1, h2, r⟩
      · rw [ho] at h1
        cases h1
        exact ⟨w, e1, .inl ⟨a, ho, rfl, h3, t⟩⟩
      · rw [ho] at h1; cases h1
    · rw [List.getElem?_set_ne (Ne.symm hj)] at e
      obtain ⟨w, e1, z⟩ := S.slot j f d e
      refine ⟨w, e1, ?_⟩
      rcases z with ⟨b, h1, h2, h3, t⟩ | ⟨h1, h2, r⟩
      · refine .inl ⟨b, h1, h2, h3, t.frm F (upd_ne fun e => ?_)⟩
        subst e
        exact hj (S.inj j i _ h1 ho)
      · exact .inr ⟨h1, h2, r.frm F⟩
  · by_cases e : b = a
    · rw [e, upd_same] at q; cases q
    · rw [upd_ne e] at q; exact S.alive b z q
  · have : b ≠ a := fun e => by rw [e, n0] at q; cases q
    rw [upd_ne this]; exact S.same b u q h1 h2
  · rw [upd_ne (Ne.symm n2)]; exact S.src.dic
  · rw [upd_ne (Ne.symm n3)]; exact S.src.cel
theorem backE_length (own : List Nat) (old env : Env) : (backE own old env).length = env.length := by
  induction own with
  | nil => rfl
  | cons i r ih => show ((backE r old env).set i _).length = _; rw [List.length_set]; exact ih
theorem backE_at {own : List Nat} {old env : Env} {j : Nat} {x : Bool × D} (h : (backE own old env)[j]? = some (some x)) : (j ∈ own ∧ old[j]? = some (some x)) ∨ (j ∉ own ∧ env[j]? = some (some x)) := by
  induction own with
  | nil => exact .inr ⟨by simp, h⟩
  | cons i r ih =>
    have h : ((backE r old env).set i (old.getD i none))[j]? = some (some x) := h
    by_cases e : j = i
    · subst e
      by_cases hl : j < (backE r old env).length
      · rw [List.getElem?_set_self hl] at h
        refine .inl ⟨by simp, ?_⟩
        have h : old.getD j none = some x := Option.some.inj h
        rw [List.getD_eq_getElem?_getD] at h
        cases q : old[j]? with
        | none => rw [q] at h; cases h
        | some y => rw [q] at h; exact congrArg some h
      · rw [List.getElem?_eq_none (by simpa using hl)] at h; cases h
    · rw [List.getElem?_set_ne (Ne.symm e)] at h
      rcases ih h with ⟨h1, h2⟩ | ⟨h1, h2⟩
      · exact .inl ⟨List.mem_cons_of_mem _ h1, h2⟩
      · exact .inr ⟨fun z => (List.mem_cons.mp z).elim e h1, h2⟩
theorem noOwn_at {own : List Nat} {env : Env} (h : noOwn own env = true) {j : Nat} (hj : j ∈ own) {f : Bool} {d : D} (e : env[j]? = some (some (f, d))) : f = false := by
  have := List.all_eq_true.mp h j hj
  rw [e] at this
  cases f with
  | false => rfl
  | true => cases this
/-- behind a comprehension -/
theorem Stt.backed {own : List Nat} {tmp2 : List Addr} {ow2 : Ow} {σ2 : St} {H2 : Hp} {env2 : Env} {s2 : Sr} (S1 : Stt g tmp ow σ H env s) (no : noOwn own env = true) (S2 : Stt g tmp2 ow2 σ2 H2 (wipeE own env2) s2)
    (hl : σ2.length = σ.length) (he : ∀ j, j ∉ own → σ2[j]? = σ[j]?) (F : Frm (Av g tmp ow) (Av g tmp2 ow2) tmp H H2) :
    Stt g tmp2 (owW own ow2) σ H2 (backE own env env2) s2 ∧ Frm (Av g tmp2 ow2) (Av g tmp2 (owW own ow2)) tmp2 H2 H2 := by
  obtain ⟨S3, G⟩ := S2.wiped own (σ' := σ) hl.symm fun j hj => (he j hj).symm
  refine ⟨⟨by rw [backE_length]; have := S2.len; rw [wipeE_length] at this; rw [this, hl], fun j f d e => ?_, S3.inj, S3.owN, S3.tmN, S3.tmD, S3.alive, S3.same, S3.src⟩, G⟩
  rcases backE_at e with ⟨hj, e⟩ | ⟨hj, e⟩
  · have hf := noOwn_at no hj e
    obtain ⟨w, e1, z⟩ := S1.slot j f d e
    refine ⟨w, e1, .inr ⟨by simp [owW, hj], fun h => (by rw [hf] at h; cases h), ?_⟩⟩
    rcases z with ⟨b, h1, h2, h3, t⟩ | ⟨h1, h2, r⟩
    · rw [hf] at h2; cases h2
    · exact (r.frm F).frm G
  · have e2 : ∀ own' : List Nat, j ∉ own' → (wipeE own' env2)[j]? = env2[j]? := by
      intro own' hn
      induction own' with
      | nil => rfl
      | cons i r ih =>
        show ((wipeE r env2).set i none)[j]? = _
        rw [List.getElem?_set_ne (fun q => hn (by simp [q])), ih (fun q => hn (List.mem_cons_of_mem _ q))]
    have e3 : (wipeE own (wipeE own env2))[j]? = some (some (f, d)) := by
      have e4 : ∀ (own' : List Nat) (en : Env), j ∉ own' → (wipeE own' en)[j]? = en[j]? := by
        intro own' en hn
        induction own' with
        | nil => rfl
        | cons i r ih =>
          show ((wipeE r en).set i none)[j]? = _
          rw [List.getElem?_set_ne (fun q => hn (by simp [q])), ih (fun q => hn (List.mem_cons_of_mem _ q))]
      rw [e4 own _ hj, e4 own _ hj]; exact e
    exact S3.slot j f d e3
end

/-! comprehensions -/
def TTs (cf : Cf) (es : List Ex) : TT := fun σ H Q => ∃ g tmp ow env s b env' s', Stt g tmp ow σ H env s ∧ tests cf es env s = some (b, env', s') ∧
  ∀ H' ow', SzOk H' → Stt g tmp ow' σ H' env' s' → Frm (Av g tmp ow) (Av g tmp ow') tmp H H' → Q b H'
section
variable {X : Cx} {cf : Cf} {tg iter a b c e l elt : Expr} {x y w ee : Ex} {pos p : Pos} {es ifs : List Expr} {xs fs : List Ex} {kk : Ik} {gg : Tg}
theorem PTs.mk' {t t' : TT} (h : PTs X es t) (k : ∀ σ H Q, SzOk H → t' σ H Q → t σ H (fun v H1 => SzOk H1 → Q v H1)) : PTs X es t' :=
  ⟨fun pins s σ H Q I hw => thn (h.run pins s σ H _ I (k σ H Q (szOk_of I) hw)) fun u s' ⟨H', I', q⟩ => ⟨H', I', q (szOk_of I')⟩⟩
theorem f_nil : PTs X [] (TTs cf []) := PTs.mk' pts_nil fun σ H Q z ⟨g, tmp, ow, env, s, b, env', s', S, he, k⟩ => by
  simp only [tests, Option.some.injEq, Prod.mk.injEq] at he
  obtain ⟨rfl, rfl, rfl⟩ := he
  exact fun z' => k H ow z S .refl
theorem f_one (h : PT X c (TT' cf x)) : PTs X [c] (TTs cf [x]) := PTs.mk' (pts_one h) fun σ H Q z ⟨g, tmp, ow, env, s, b, env', s', S, he, k⟩ => by
  simp only [tests] at he
  cases h1 : ev cf x env s with
  | none => rw [h1] at he; cases he
  | some q =>
    obtain ⟨d1, env1, s1⟩ := q
    rw [h1] at he
    cases d1 with
    | bl d =>
      have h2 : (b, env', s') = (d, env1, s1) := by
        cases d with
        | true => exact (Option.some.inj he).symm
        | false => exact (Option.some.inj he).symm
      simp only [Prod.mk.injEq] at h2
      obtain ⟨rfl, rfl, rfl⟩ := h2
      exact ⟨g, tmp, ow, env, s, b, _, _, S, h1, fun H' ow' z' S' F _ => k H' ow' z' S' F⟩
    | _ => simp at he
def cTurn (cf : Cf) (own : List Nat) (tg : Tg) (ifs : List Ex) (elt : Ex) : D → Env → Sr → Option (Option D × Env × Sr) := fun x env s => match bindT tg x (wipeE own env) with
  | some env => match tests cf ifs env s with
    | some (true, env, s) => match ev cf elt env s with
      | some (d, env, s) => some (some d, env, s)
      | none => none
    | some (false, env, s) => some (none, env, s)
    | none => none
  | none => none
theorem comp_split {own : List Nat} {env env' : Env} {s s' : Sr} {d : D} (he : ev cf (.comp own gg kk xs fs ee) env s = some (d, env', s')) :
    ∃ ds env1 s1 zs ys env2, evOs cf xs env s = some (ds, env1, s1) ∧ walk kk ds = some zs ∧ noOwn own env1 = true ∧ turns (cTurn cf own gg fs ee) zs [] env1 s1 = some (ys, env2, s') ∧ d = .lst ys ∧ env' = backE own env1 env2 := by
  simp only [ev] at he
  cases h1 : evOs cf xs env s with
  | none => rw [h1] at he; cases he
  | some q =>
    obtain ⟨ds, env1, s1⟩ := q
    rw [h1] at he
    dsimp only at he
    cases h2 : walk kk ds with
    | none => rw [h2] at he; cases he
    | some zs =>
      rw [h2] at he
      dsimp only at he
      split at he
      · rename_i no
        have he : (match turns (cTurn cf own gg fs ee) zs [] env1 s1 with
          | some (ys, env', s) => some (D.lst ys, backE own env1 env', s)
          | none => none) = some (d, env', s') := he
        cases h3 : turns (cTurn cf own gg fs ee) zs [] env1 s1 with
        | none => rw [h3] at he; cases he
        | some q =>
          obtain ⟨ys, env2, s2⟩ := q
          rw [h3] at he
          simp only [Option.some.injEq, Prod.mk.injEq] at he
          obtain ⟨rfl, rfl, rfl⟩ := he
          exact ⟨ds, env1, s1, zs, ys, env2, rfl, h2, no, h3, rfl, rfl⟩
      · cases he
theorem cTurn_split {own : List Nat} {env env' : Env} {s s' : Sr} {x : D} {o : Option D} (h : cTurn cf own gg fs ee x env s = some (o, env', s')) :
    ∃ env1, bindT gg x (wipeE own env) = some env1 ∧ ((tests cf fs env1 s = some (false, env', s') ∧ o = none) ∨ ∃ env2 s2 d, tests cf fs env1 s = some (true, env2, s2) ∧ ev cf ee env2 s2 = some (d, env', s') ∧ o = some d) := by
  unfold cTurn at h
  cases h1 : bindT gg x (wipeE own env) with
  | none => rw [h1] at h; cases h
  | some env1 =>
    rw [h1] at h
    dsimp only at h
    refine ⟨env1, rfl, ?_⟩
    cases h2 : tests cf fs env1 s with
    | none => rw [h2] at h; cases h
    | some q =>
      obtain ⟨b, env2, s2⟩ := q
      rw [h2] at h
      cases b with
      | false =>
        simp only [Option.some.injEq, Prod.mk.injEq] at h
        obtain ⟨rfl, rfl, rfl⟩ := h
        exact .inl ⟨rfl, rfl⟩
      | true =>
        dsimp only at h
        cases h3 : ev cf ee env2 s2 with
        | none => rw [h3] at h; cases h
        | some q =>
          obtain ⟨d, env3, s3⟩ := q
          rw [h3] at h
          simp only [Option.some.injEq, Prod.mk.injEq] at h
          obtain ⟨rfl, rfl, rfl⟩ := h
          exact .inr ⟨env2, s2, d, rfl, h3, rfl⟩
theorem wipe_same {σ σ' : St} {own : List Nat} (hl : σ'.length = (wipe σ own).length) (he : ∀ j, j ∉ own → σ'[j]? = (wipe σ own)[j]?) : wipe σ' own = wipe σ own := by
  have key : ∀ (vs : List Nat) (τ : St) (j : Nat), (wipe τ vs)[j]? = if j ∈ vs then (if j < τ.length then some none else none) else τ[j]? := by
    intro vs τ j
    induction vs with
    | nil => simp [wipe]
    | cons i r ih =>
      unfold wipe
      by_cases e : j = i
      · subst e
        rw [List.getElem?_set]
        simp only [if_true, wipe_length, List.mem_cons, true_or]
      · rw [List.getElem?_set_ne (Ne.symm e), ih]
        simp [e]
  rw [wipe_length] at hl
  apply List.ext_getElem?
  intro j
  rw [key, key]
  by_cases hj : j ∈ own
  · rw [if_pos hj, if_pos hj, hl]
  · rw [if_neg hj, if_neg hj, he j hj, key, if_neg hj]
theorem wipe_off {σ : St} {own : List Nat} {j : Nat} (h : j ∉ own) : (wipe σ own)[j]? = σ[j]? := by
  induction own with
  | nil => rfl
  | cons i r ih =>
    unfold wipe
    rw [List.getElem?_set_ne (fun q => h (by simp [q])), ih (fun q => h (List.mem_cons_of_mem _ q))]
theorem comp_core {own : List Nat} {σ : St} {H : Hp} {Q : VK} (K : PySem.W.Frag) (hok : okT gg kk = true) (hsub : gg.slots.all (own.contains ·) = true) (z : SzOk H) (hT : T cf (.comp own gg kk xs fs ee) σ H Q) :
    tLc (TIof cf kk xs) (TGt K gg) (TTs cf fs) (T cf ee) own σ H (fun v H1 => SzOk H1 → Q v H1) := by
  obtain ⟨g, tmp, ow, env, s, d, env', s', S, hev, k⟩ := hT
  obtain ⟨ds, env1, s1, zs, ys, envN, h1, h2, no, h3, rfl, rfl⟩ := comp_split hev
  have hin : ∀ j, j ∈ gg.slots → j ∈ own := fun j hj => by simpa using List.all_eq_true.mp hsub j hj
  refine ⟨g, tmp, ow, env, s, ds, zs, env1, s1, S, h1, h2, fun J H1 ow1 z1 S1 F1 it D hD => ?_⟩
  refine ⟨fun i m H => ∃ acc us ow2 env2 s2, Stt g (D :: tmp) ow2 (wipe σ own) H (wipeE own env2) s2 ∧ Frm (Av g tmp ow1) (Av g (D :: tmp) ow2) tmp H1 H ∧ H D = some (.lst us) ∧ RepL g.aS (Av g (D :: tmp) ow2) H us acc.reverse ∧
    turns (cTurn cf own gg fs ee) (zs.drop i) acc env2 s2 = some (ys, envN, s') ∧ m = zs.length - i ∧ acc.length ≤ i ∧ i ≤ zs.length, ⟨zs.length, ?_⟩, ?_⟩
  · obtain ⟨S2, F2⟩ := S1.hold (o := .lst []) hD
    obtain ⟨S3, F3⟩ := S2.wiped own (σ' := wipe σ own) (wipe_length σ own) fun j hj => wipe_off hj
    exact ⟨[], [], _, env1, s1, S3, F2.trans F3 fun _ h => List.mem_cons_of_mem _ h, upd_same, .nil, h3, by simp, by simp, by omega⟩
  · rintro i m H2 ⟨acc, us, ow2, env2, s2, S2, F2, hDu, rl, ht, hm, hacc, hile⟩
    by_cases hi : i < zs.length
    · refine .inr ⟨it.go _ H2 i F2.bare hi, ?_⟩
      have hget : zs[i]? = some zs[i] := List.getElem?_eq_getElem hi
      rw [List.drop_eq_getElem_cons hi] at ht
      simp only [turns] at ht
      cases h4 : cTurn cf own gg fs ee zs[i] env2 s2 with
      | none => rw [h4] at ht; cases ht
      | some q =>
        obtain ⟨o, env5, s5⟩ := q
        rw [h4] at ht
        obtain ⟨env3, hb, hc⟩ := cTurn_split h4
        refine ⟨fun H' => ∃ acc us ow2 env2 s2, Stt g (D :: tmp) ow2 (wipe σ own) H' (wipeE own env2) s2 ∧ Frm (Av g tmp ow1) (Av g (D :: tmp) ow2) tmp H1 H' ∧ H' D = some (.lst us) ∧ RepL g.aS (Av g (D :: tmp) ow2) H' us acc.reverse ∧
          turns (cTurn cf own gg fs ee) (zs.drop (i + 1)) acc env2 s2 = some (ys, envN, s') ∧ acc.length ≤ i + 1, fun H' ⟨acc, us, ow2, env2, s2, a1, a2, a3, a4, a5, a6⟩ => ⟨zs.length - (i + 1), by omega, acc, us, ow2, env2, s2, a1, a2, a3, a4, a5, rfl, a6, by omega⟩, fun v H3 hy => ?_⟩
        have yl := it.yld _ H2 i zs[i] v H3 F2.bare hget hy
        refine yl_bind S2 yl hok hb fun σ4 ow4 S4 F4 hl4 ho4 => ?_
        have off : ∀ j, j ∉ own → σ4[j]? = (wipe σ own)[j]? := fun j hj => ho4 j fun q => hj (hin j q)
        have dm : D ∈ D :: tmp := List.mem_cons_self
        have F24 := F2.trans F4 fun _ h => List.mem_cons_of_mem _ h
        have hD4 : H3 D = some (.lst us) := by rw [F4.tops D dm]; exact hDu
        have rl4 := rl.frm F4
        refine ⟨wipe_same hl4 off, ?_⟩
        rcases hc with ⟨hc, rfl⟩ | ⟨env4, s4, dd, hc, hee, rfl⟩
        · refine ⟨g, D :: tmp, ow4, env3, s2, false, env5, s5, S4, hc, fun H5 ow5 z5 S5 F5 => ?_⟩
          dsimp only
          rw [if_neg Bool.false_ne_true]
          obtain ⟨S6, F6⟩ := S5.wiped own (σ' := wipe σ own) hl4.symm fun j hj => (off j hj).symm
          exact ⟨acc, us, _, env5, s5, S6, (F24.trans F5 fun _ h => List.mem_cons_of_mem _ h).trans F6 fun _ h => List.mem_cons_of_mem _ h, by rw [F5.tops D dm]; exact hD4, (rl4.frm F5).frm F6, ht, by omega⟩
        · refine ⟨g, D :: tmp, ow4, env3, s2, true, env4, s4, S4, hc, fun H5 ow5 z5 S5 F5 => ?_⟩
          dsimp only
          rw [if_pos rfl]
          refine T.weak S5 hee fun y H6 ow6 z6 S6 F6 r6 => ?_
          have hD6 : H6 D = some (.lst us) := by rw [F6.tops D dm, F5.tops D dm]; exact hD4
          have hlen : us.length = acc.length := by rw [rl.length, List.length_reverse]
          have hsz : sizeLine = 16777216 := by decide
          have hsz2 : szLine = 16777216 := rfl
          refine ⟨us, hD6, by have := it.len; omega, ?_⟩
          obtain ⟨S7, F7⟩ := S6.chgTmp (o := .lst (us ++ [y]))
          obtain ⟨S8, F8⟩ := S7.wiped own (σ' := wipe σ own) hl4.symm fun j hj => (off j hj).symm
          have F46 := (F24.trans F5 fun _ h => List.mem_cons_of_mem _ h).trans F6 fun _ h => List.mem_cons_of_mem _ h
          have F68 := (F7.trans F8 fun _ h => List.mem_cons_of_mem _ h)
          refine ⟨dd :: acc, us ++ [y], _, env5, s5, S8, F46.trans F68 fun _ h => h, upd_same, ?_, ht, by rw [List.length_cons]; omega⟩
          rw [List.reverse_cons]
          exact (((rl4.frm F5).frm F6).append (.cons r6 .nil)).frm F68
    · have hd : zs.drop i = [] := List.drop_eq_nil_of_le (by omega)
      rw [hd] at ht
      simp only [turns, Option.some.injEq, Prod.mk.injEq] at ht
      obtain ⟨rfl, rfl, rfl⟩ := ht
      refine .inl ⟨it.stop _ H2 i F2.bare (by omega), fun z' => ?_⟩
      obtain ⟨S3, F3⟩ := S1.backed no S2 (wipe_length σ own) (fun j hj => wipe_off hj) F2
      refine k (.ref D) H2 (D :: tmp) _ z' S3 ((F1.trans F2 fun _ h => h).trans F3 fun _ h => List.mem_cons_of_mem _ h) (.inr ⟨rfl, D, rfl, rfl, .lst hDu (rl.frm F3)⟩)
theorem r_comp {scope : Scope} {own : List (Str × Nat)} (C : Cok X) (hi : PI X tg iter (TIof cf kk xs)) (ok : BlkOk X.N X.env.scope scope own)
    (hg : ∀ (s : Shared) (H : Hp) (L : Addr) (cl : List (Str × Addr)) (fp : List Addr), PG (X.blk s H scope (compEnvC scope cl L X.env) fp) tg (TGt X.K gg)) (ht : ∀ (s : Shared) (H : Hp) (L : Addr) (cl : List (Str × Addr)) (fp : List Addr), PTs (X.blk s H scope (compEnvC scope cl L X.env) fp) ifs (TTs cf fs))
    (he : ∀ (s : Shared) (H : Hp) (L : Addr) (cl : List (Str × Addr)) (fp : List Addr), PE (X.blk s H scope (compEnvC scope cl L X.env) fp) elt (T cf ee)) (hs : ∀ x, foldedSetIterable iter X.env x = pure x := by intro _; rfl) (hsub : gg.slots.all ((own.map (·.2)).contains ·) = true := by rfl) (hok : okT gg kk = true := by rfl) :
    PE X (.ListComp elt [⟨tg, iter, ifs, 0⟩] scope pos) (T cf (.comp (own.map (·.2)) gg kk xs fs ee)) :=
  PE.mk' (pe_lc C.calm C.nd hi ok hg ht he hs) fun σ H Q z hT => comp_core X.K hok hsub z hT
end
end Rf
end

section
set_option linter.all false
set_option Elab.async false
set_option maxRecDepth 100000
namespace Rf
open PySem L2

/-! statements -/
def SOut (ff : Bool) (g : Gp) (ow : Ow) (H : Hp) (D : Ends) : Out → Prop
  | .nx env' s' => ∀ σ' H' ow', SzOk H' → Stt g [] ow' σ' H' env' s' → Frm (Av g [] ow) (Av g [] ow') [] H H' → D.nx σ' H'
  | .bk env' s' => ∀ σ' H' ow', SzOk H' → Stt g [] ow' σ' H' env' s' → Frm (Av g [] ow) (Av g [] ow') [] H H' → D.bk σ' H'
  | .ct env' s' => ∀ σ' H' ow', SzOk H' → Stt g [] ow' σ' H' env' s' → Frm (Av g [] ow) (Av g [] ow') [] H H' → D.ct σ' H'
  | .rt d s' => ∀ v σ' H' tmp' ow' env', SzOk H' → Stt g tmp' ow' σ' H' env' s' → Frm (Av g [] ow) (Av g tmp' ow') [] H H' → Val ff g [] tmp' ow' H' v d → D.rt v H'
theorem SOut.from {ff : Bool} {g : Gp} {ow ow1 : Ow} {H H1 : Hp} {D : Ends} {o : Out} (h : SOut ff g ow H D o) (F : Frm (Av g [] ow) (Av g [] ow1) [] H H1) : SOut ff g ow1 H1 D o := by
  cases o with
  | nx env s => exact fun σ' H' ow' z S G => h σ' H' ow' z S (F.trans G fun _ h => h)
  | bk env s => exact fun σ' H' ow' z S G => h σ' H' ow' z S (F.trans G fun _ h => h)
  | ct env s => exact fun σ' H' ow' z S G => h σ' H' ow' z S (F.trans G fun _ h => h)
  | rt d s => exact fun v σ' H' tmp' ow' env' z S G => h v σ' H' tmp' ow' env' z S (F.trans G fun _ h => h)
def TSt (cf : Cf) (ff : Bool) (fuel : Nat) (st : Sm) : TS := fun D σ H => ∃ g ow env s o, Stt g [] ow σ H env s ∧ evS cf ff fuel st env s = some o ∧ SOut ff g ow H D o
def TSs (cf : Cf) (ff : Bool) (fuel : Nat) (st : List Sm) : TS := fun D σ H => ∃ g ow env s o, Stt g [] ow σ H env s ∧ evSs cf ff fuel st env s = some o ∧ SOut ff g ow H D o
def szD (D : Ends) : Ends := ⟨fun σ H => SzOk H → D.nx σ H, fun v H => SzOk H → D.rt v H, fun σ H => SzOk H → D.bk σ H, fun σ H => SzOk H → D.ct σ H⟩
section
variable {X : Cx} {cf : Cf} {ff : Bool} {fuel : Nat} {st : Stmt} {sts rest : List Stmt} {m : Sm} {ms : List Sm} {a b c e : Expr} {x ea eb ec : Ex} {pos p : Pos} {i : Nat} {y : Str}
theorem sp_sz {pins : List (Addr × Obj)} {D : Ends} {f : Flow} {s' : Shared} (h : SP X pins (szD D) f s') : SP X pins D f s' := by
  cases f with
  | next => obtain ⟨σ', H', I, q⟩ := h; exact ⟨σ', H', I, q (szOk_of I)⟩
  | brk => obtain ⟨σ', H', I, q⟩ := h; exact ⟨σ', H', I, q (szOk_of I)⟩
  | cont => obtain ⟨σ', H', I, q⟩ := h; exact ⟨σ', H', I, q (szOk_of I)⟩
  | ret u => obtain ⟨v, σ', H', I, r, q⟩ := h; exact ⟨v, σ', H', I, r, q (szOk_of I)⟩
theorem PS.mk' {t t' : TS} (h : PS X st t) (k : ∀ D σ H, SzOk H → t' D σ H → t (szD D) σ H) : PS X st t' :=
  ⟨fun pins s σ H D I hw => thn (h.run pins s σ H _ I (k D σ H (szOk_of I) hw)) fun _ _ q => sp_sz q⟩
theorem PSs.mk' {t t' : TS} (h : PSs X sts t) (k : ∀ D σ H, SzOk H → t' D σ H → t (szD D) σ H) : PSs X sts t' :=
  ⟨fun pins s σ H D I hw => thn (h.run pins s σ H _ I (k D σ H (szOk_of I) hw)) fun _ _ q => sp_sz q⟩
theorem SOut.sz {g : Gp} {ow : Ow} {H : Hp} {D : Ends} {o : Out} (h : SOut ff g ow H D o) : SOut ff g ow H (szD D) o := by
  cases o with
  | nx env s => exact fun σ' H' ow' z S G _ => h σ' H' ow' z S G
  | bk env s => exact fun σ' H' ow' z S G _ => h σ' H' ow' z S G
  | ct env s => exact fun σ' H' ow' z S G _ => h σ' H' ow' z S G
  | rt d s => exact fun v σ' H' tmp' ow' env' z S G w _ => h v σ' H' tmp' ow' env' z S G w
theorem s_nil : PSs X [] (TSs cf ff fuel []) := PSs.mk' pss_nil fun D σ H z ⟨g, ow, env, s, o, S, he, k⟩ => by
  simp only [evSs, Option.some.injEq] at he
  subst he
  exact fun z' => k σ H ow z' S .refl
theorem s_cons (h1 : PS X st (TSt cf ff fuel m)) (h2 : PSs X rest (TSs cf ff fuel ms)) : PSs X (st :: rest) (TSs cf ff fuel (m :: ms)) :=
  PSs.mk' (pss_cons h1 h2) fun D σ H z ⟨g, ow, env, s, o, S, he, k⟩ => by
    simp only [evSs] at he
    cases h3 : evS cf ff fuel m env s with
    | none => rw [h3] at he; cases he
    | some o1 =>
      rw [h3] at he
      refine ⟨g, ow, env, s, o1, S, h3, ?_⟩
      cases o1 with
      | nx env1 s1 => exact fun σ' H' ow' z' S' F => ⟨g, ow', env1, s1, o, S', he, (k.from F).sz⟩
      | bk env1 s1 => cases he; exact k.sz
      | ct env1 s1 => cases he; exact k.sz
      | rt d s1 => cases he; exact k.sz
theorem s_docs (h1 : PS X st tNext) (h2 : PSs X rest (TSs cf ff fuel ms)) : PSs X (st :: rest) (TSs cf ff fuel ms) :=
  PSs.mk' (pss_cons h1 h2) fun D σ H z ⟨g, ow, env, s, o, S, he, k⟩ => ⟨g, ow, env, s, o, S, he, k.sz⟩

/-! plain stores -/
theorem asg_run {g : Gp} {ow : Ow} {σ : St} {H : Hp} {D : Ends} {env : Env} {s : Sr} {o : Out} (S : Stt g [] ow σ H env s) (he : evS cf ff fuel (.asg i x) env s = some o) (k : SOut ff g ow H D o) : T cf x σ H (fun v H1 => SzOk H1 → D.nx (σ.set i (some v)) H1) := by
  simp only [evS] at he
  cases h1 : ev cf x env s with
  | none => rw [h1] at he; cases he
  | some q =>
    obtain ⟨d, env1, s1⟩ := q
    rw [h1] at he
    cases he
    refine T.weak S h1 fun v H1 ow1 z1 S1 F1 r1 => fun z' => ?_
    obtain ⟨S2, F2⟩ := S1.put (i := i) r1 false (fun h => by cases h)
    exact k _ H1 _ z' S2 (F1.trans F2 fun _ h => h)
theorem asgO_run {g : Gp} {ow : Ow} {σ : St} {H : Hp} {D : Ends} {env : Env} {s : Sr} {o : Out} (S : Stt g [] ow σ H env s) (he : evS cf ff fuel (.asgO i x) env s = some o) (k : SOut ff g ow H D o) : T cf x σ H (fun v H1 => SzOk H1 → D.nx (σ.set i (some v)) H1) := by
  simp only [evS] at he
  split at he
  · rename_i hf
    cases h1 : ev cf x env s with
    | none => rw [h1] at he; cases he
    | some q =>
      obtain ⟨d, env1, s1⟩ := q
      rw [h1] at he
      cases he
      refine T.run S h1 fun v H1 tmp1 ow1 z1 S1 F1 w1 => fun z' => ?_
      rcases w1 with ⟨rfl, r, hc⟩ | ⟨_, a, rfl, rfl, t⟩
      · obtain ⟨S2, F2⟩ := S1.put (i := i) r true (fun _ => hc hf)
        exact k _ H1 _ z' S2 (F1.trans F2 fun _ h => h)
      · obtain ⟨S2, F2⟩ := S1.own (i := i) t
        exact k _ H1 _ z' S2 (F1.trans F2 fun _ h => h)
  · cases he
theorem s_asg {pos' : Pos} (hN : X.N.Nodup) (hi : X.N[i]? = some y) (hx : Loc X.env.scope y) (he : PE X e (T cf x)) (hs : swapsWith e (some (.Name y pos')) pos.line X.env = pure false := by rfl) (hf : X.fn y = true ∨ X.env.scope.names.lookup y = some .local := by first | exact .inl rfl | exact .inr rfl | assumption) : PS X (.Assign [.Name y pos'] e pos) (TSt cf ff fuel (.asg i x)) :=
  PS.mk' (ps_set hN hi hx he hs hf) fun D σ H z ⟨g, ow, env, s, o, S, h, k⟩ => asg_run S h k
theorem s_asgO {pos' : Pos} (hN : X.N.Nodup) (hi : X.N[i]? = some y) (hx : Loc X.env.scope y) (he : PE X e (T cf x)) (hs : swapsWith e (some (.Name y pos')) pos.line X.env = pure false := by rfl) (hf : X.fn y = true ∨ X.env.scope.names.lookup y = some .local := by first | exact .inl rfl | exact .inr rfl | assumption) : PS X (.Assign [.Name y pos'] e pos) (TSt cf ff fuel (.asgO i x)) :=
  PS.mk' (ps_set hN hi hx he hs hf) fun D σ H z ⟨g, ow, env, s, o, S, h, k⟩ => asgO_run S h k
section
variable {py : Pos} {elt tg iter : Expr} {ifs : List Expr} {scope : Scope} {own : List (Str × Nat)} {spos : Pos} {kk : Ik} {gg : Tg} {xs fs : List Ex} {ee : Ex}
/-- a comprehension stored at once -/
theorem s_asgC (C : Cok X) (hy : X.N[i]? = some y) (hyl : X.env.scope.names.lookup y = some .local) (hi : PI X tg iter (TIof cf kk xs)) (ok : BlkOk X.N X.env.scope scope own)
    (hg : ∀ (s : Shared) (H : Hp) (L : Addr) (cl : List (Str × Addr)) (fp : List Addr), PG (X.blk s H scope (compEnvC scope cl L X.env) fp) tg (TGt X.K gg)) (ht : ∀ (s : Shared) (H : Hp) (L : Addr) (cl : List (Str × Addr)) (fp : List Addr), PTs (X.blk s H scope (compEnvC scope cl L X.env) fp) ifs (TTs cf fs))
    (he : ∀ (s : Shared) (H : Hp) (L : Addr) (cl : List (Str × Addr)) (fp : List Addr), PE (X.blk s H scope (compEnvC scope cl L X.env) fp) elt (T cf ee)) (hsw : swapsWith (.ListComp elt [⟨tg, iter, ifs, 0⟩] scope pos) (some (.Name y py)) spos.line X.env = pure true := by rfl) (hs : ∀ x, foldedSetIterable iter X.env x = pure x := by intro _; rfl) (hsub : gg.slots.all ((own.map (·.2)).contains ·) = true := by rfl) (hok : okT gg kk = true := by rfl) :
    PS X (.Assign [.Name y py] (.ListComp elt [⟨tg, iter, ifs, 0⟩] scope pos) spos) (TSt cf ff fuel (.asg i (.comp (own.map (·.2)) gg kk xs fs ee))) :=
  PS.mk' (ps_setLc C.calm C.nd hy hyl hsw hi ok hg ht he hs) fun D σ H z ⟨g, ow, env, s, o, S, h, k⟩ => by
    have hT := asg_run S h k
    have := comp_core X.K hok hsub z hT
    obtain ⟨g, tmp, ow, env, s, ds, xs, env', s', a1, a2, a3, a4⟩ := this
    refine ⟨g, tmp, ow, env, s, ds, xs, env', s', a1, a2, a3, fun J H' ow' b1 b2 b3 b4 D' hD' => ?_⟩
    obtain ⟨W, h1, h2⟩ := a4 J H' ow' b1 b2 b3 b4 D' hD'
    exact ⟨W, h1, fun i m H w => (h2 i m H w).imp (fun ⟨q1, q2⟩ => ⟨q1, fun z' => q2 z' z'⟩) fun q => q⟩
theorem s_asgCO (C : Cok X) (hy : X.N[i]? = some y) (hyl : X.env.scope.names.lookup y = some .local) (hi : PI X tg iter (TIof cf kk xs)) (ok : BlkOk X.N X.env.scope scope own)
    (hg : ∀ (s : Shared) (H : Hp) (L : Addr) (cl : List (Str × Addr)) (fp : List Addr), PG (X.blk s H scope (compEnvC scope cl L X.env) fp) tg (TGt X.K gg)) (ht : ∀ (s : Shared) (H : Hp) (L : Addr) (cl : List (Str × Addr)) (fp : List Addr), PTs (X.blk s H scope (compEnvC scope cl L X.env) fp) ifs (TTs cf fs))
    (he : ∀ (s : Shared) (H : Hp) (L : Addr) (cl : List (Str × Addr)) (fp : List Addr), PE (X.blk s H scope (compEnvC scope cl L X.env) fp) elt (T cf ee)) (hsw : swapsWith (.ListComp elt [⟨tg, iter, ifs, 0⟩] scope pos) (some (.Name y py)) spos.line X.env = pure true := by rfl) (hs : ∀ x, foldedSetIterable iter X.env x = pure x := by intro _; rfl) (hsub : gg.slots.all ((own.map (·.2)).contains ·) = true := by rfl) (hok : okT gg kk = true := by rfl) :
    PS X (.Assign [.Name y py] (.ListComp elt [⟨tg, iter, ifs, 0⟩] scope pos) spos) (TSt cf ff fuel (.asgO i (.comp (own.map (·.2)) gg kk xs fs ee))) :=
  PS.mk' (ps_setLc C.calm C.nd hy hyl hsw hi ok hg ht he hs) fun D σ H z ⟨g, ow, env, s, o, S, h, k⟩ => by
    have hT := asgO_run S h k
    have := comp_core X.K hok hsub z hT
    obtain ⟨g, tmp, ow, env, s, ds, xs, env', s', a1, a2, a3, a4⟩ := this
    refine ⟨g, tmp, ow, env, s, ds, xs, env', s', a1, a2, a3, fun J H' ow' b1 b2 b3 b4 D' hD' => ?_⟩
    obtain ⟨W, h1, h2⟩ := a4 J H' ow' b1 b2 b3 b4 D' hD'
    exact ⟨W, h1, fun i m H w => (h2 i m H w).imp (fun ⟨q1, q2⟩ => ⟨q1, fun z' => q2 z' z'⟩) fun q => q⟩
end
theorem s_asgT {tg : Expr} {gg : Tg} (he : PE X e (T cf x)) (hg : PG X tg (TGt X.K gg)) (hs : swapsWithSole [tg] e pos.line X.env = pure false := by rfl) (hw : swappedStores [tg] e X.env = pure none := by rfl) (h1 : (assignEach [tg] X.env).map (·.2) = [assign tg X.env] := by rfl) : PS X (.Assign [tg] e pos) (TSt cf ff fuel (.asgT gg x)) :=
  PS.mk' (ps_asg he hg hs hw h1) fun D σ H z ⟨g, ow, env, s, o, S, h, k⟩ => by
    simp only [evS] at h
    cases h1 : ev cf x env s with
    | none => rw [h1] at h; cases h
    | some q =>
      obtain ⟨d, env1, s1⟩ := q
      rw [h1] at h
      dsimp only at h
      cases h2 : bindT gg d env1 with
      | none => rw [h2] at h; cases h
      | some env2 =>
        rw [h2] at h
        cases h
        refine T.weak S h1 fun v H1 ow1 z1 S1 F1 r1 => bind_run S1 r1 h2 fun σ2 ow2 S2 F2 _ _ => fun z' => k σ2 H1 ow2 z' S2 (F1.trans F2 fun _ h => h)
theorem puts_nil {env env' : Env} {xs : List Ex} {ds : List D} (h : putsE [] [] xs ds env = some env') : xs = [] ∧ ds = [] ∧ env' = env := by
  cases xs <;> cases ds <;> simp only [putsE, reduceCtorEq, Option.some.injEq] at h
  exact ⟨rfl, rfl, h.symm⟩
theorem puts_cons {env env' : Env} {os : List Bool} {is : List Nat} {xs : List Ex} {ds : List D} (h : putsE (false :: os) (i :: is) xs ds env = some env') : ∃ x xs' d ds', xs = x :: xs' ∧ ds = d :: ds' ∧ putsE os is xs' ds' (env.set i (some (false, d))) = some env' := by
  cases xs <;> cases ds <;> simp only [putsE, reduceCtorEq] at h
  split at h
  · exact ⟨_, _, _, _, rfl, rfl, h⟩
  · cases h
/-- a, b = x, y -/
theorem s_par2 {i j : Nat} {y1 y2 : Str} {px py pt : Pos} {kt k2 : Nat} {pt2 : Pos} {xs : List Ex} (C : Cok X) (hi : X.N[i]? = some y1) (hj : X.N[j]? = some y2) (hx : X.env.scope.names.lookup y1 = some .local) (hy : X.env.scope.names.lookup y2 = some .local) (ha : PA X [a, b] (TA' cf xs)) (hij : i ≠ j := by decide)
    (hw : swappedStores [.Tuple [.Name y1 px, .Name y2 py] kt pt] (.Tuple [a, b] k2 pt2) X.env = pure (some [y1, y2]) := by rfl) (hs : swapsWithSole [.Tuple [.Name y1 px, .Name y2 py] kt pt] (.Tuple [a, b] k2 pt2) pos.line X.env = pure false := by rfl) :
    PS X (.Assign [.Tuple [.Name y1 px, .Name y2 py] kt pt] (.Tuple [a, b] k2 pt2) pos) (TSt cf ff fuel (.par [false, false] [i, j] xs)) :=
  PS.mk' (ps_par C.calm C.nd hi hj hij hx hy ha hw hs) fun D σ H z ⟨g, ow, env, s, o, S, h, k⟩ => by
    simp only [evS] at h
    cases h1 : evs cf xs env s with
    | none => rw [h1] at h; cases h
    | some q =>
      obtain ⟨ds, env1, s1⟩ := q
      rw [h1] at h
      dsimp only at h
      cases h2 : putsE [false, false] [i, j] xs ds env1 with
      | none => rw [h2] at h; cases h
      | some env2 =>
        rw [h2] at h
        cases h
        obtain ⟨x1, xs1, d1, ds1, rfl, rfl, p1⟩ := puts_cons h2
        obtain ⟨x2, xs2, d2, ds2, rfl, rfl, p2⟩ := puts_cons p1
        obtain ⟨rfl, rfl, rfl⟩ := puts_nil p2
        · skip
          refine ⟨g, [], ow, env, s, [d1, d2], env1, s1, S, h1, fun vs H1 ow1 z1 S1 F1 rs => ?_⟩
          cases rs with | cons ra rs => cases rs with | cons rb rs =>
          cases rs
          obtain ⟨S2, F2⟩ := S1.put (i := i) ra false (fun h => by cases h)
          obtain ⟨S3, F3⟩ := S2.put (i := j) (rb.frm F2) false (fun h => by cases h)
          exact ⟨_, _, rfl, fun z' => k _ H1 _ z' S3 ((F1.trans F2 fun _ h => h).trans F3 fun _ h => h)⟩
theorem s_par3 {i j l : Nat} {y1 y2 y3 : Str} {px py pz pt : Pos} {kt k2 : Nat} {pt2 : Pos} {xs : List Ex} (C : Cok X) (hi : X.N[i]? = some y1) (hj : X.N[j]? = some y2) (hl : X.N[l]? = some y3) (hx : X.env.scope.names.lookup y1 = some .local) (hy : X.env.scope.names.lookup y2 = some .local) (hz : X.env.scope.names.lookup y3 = some .local) (ha : PA X [a, b, c] (TA' cf xs)) (hij : i ≠ j := by decide) (hil : i ≠ l := by decide) (hjl : j ≠ l := by decide)
    (hw : swappedStores [.Tuple [.Name y1 px, .Name y2 py, .Name y3 pz] kt pt] (.Tuple [a, b, c] k2 pt2) X.env = pure (some [y1, y2, y3]) := by rfl) (hs : swapsWithSole [.Tuple [.Name y1 px, .Name y2 py, .Name y3 pz] kt pt] (.Tuple [a, b, c] k2 pt2) pos.line X.env = pure false := by rfl) :
    PS X (.Assign [.Tuple [.Name y1 px, .Name y2 py, .Name y3 pz] kt pt] (.Tuple [a, b, c] k2 pt2) pos) (TSt cf ff fuel (.par [false, false, false] [i, j, l] xs)) :=
  PS.mk' (ps_par3 C.calm C.nd hi hj hl hij hil hjl hx hy hz ha hw hs) fun D σ H z ⟨g, ow, env, s, o, S, h, k⟩ => by
    simp only [evS] at h
    cases h1 : evs cf xs env s with
    | none => rw [h1] at h; cases h
    | some q =>
      obtain ⟨ds, env1, s1⟩ := q
      rw [h1] at h
      dsimp only at h
      cases h2 : putsE [false, false, false] [i, j, l] xs ds env1 with
      | none => rw [h2] at h; cases h
      | some env2 =>
        rw [h2] at h
        cases h
        obtain ⟨x1, xs1, d1, ds1, rfl, rfl, p1⟩ := puts_cons h2
        obtain ⟨x2, xs2, d2, ds2, rfl, rfl, p2⟩ := puts_cons p1
        obtain ⟨x3, xs3, d3, ds3, rfl, rfl, p3⟩ := puts_cons p2
        obtain ⟨rfl, rfl, rfl⟩ := puts_nil p3
        · skip
          refine ⟨g, [], ow, env, s, [d1, d2, d3], env1, s1, S, h1, fun vs H1 ow1 z1 S1 F1 rs => ?_⟩
          cases rs with | cons ra rs => cases rs with | cons rb rs => cases rs with | cons rc rs =>
          cases rs
          obtain ⟨S2, F2⟩ := S1.put (i := i) ra false (fun h => by cases h)
          obtain ⟨S3, F3⟩ := S2.put (i := j) (rb.frm F2) false (fun h => by cases h)
          obtain ⟨S4, F4⟩ := S3.put (i := l) ((rc.frm F2).frm F3) false (fun h => by cases h)
          exact ⟨_, _, _, rfl, fun z' => k _ H1 _ z' S4 (((F1.trans F2 fun _ h => h).trans F3 fun _ h => h).trans F4 fun _ h => h)⟩

/-! the plain ones -/
theorem s_expr (he : PE X e (T cf x)) (hs : swapsWith e none pos.line X.env = pure false := by rfl) : PS X (.Expr e pos) (TSt cf ff fuel (.expr x)) :=
  PS.mk' (ps_expr he hs) fun D σ H z ⟨g, ow, env, s, o, S, h, k⟩ => by
    simp only [evS] at h
    cases h1 : ev cf x env s with
    | none => rw [h1] at h; cases h
    | some q =>
      obtain ⟨d, env1, s1⟩ := q
      rw [h1] at h
      cases h
      exact T.weak S h1 fun v H1 ow1 z1 S1 F1 r1 => fun z' => k σ H1 ow1 z' S1 F1
theorem s_ret (he : PE X e (T cf x)) : PS X (.Return (some e) pos) (TSt cf ff fuel (.ret x)) :=
  PS.mk' (ps_ret he) fun D σ H z ⟨g, ow, env, s, o, S, h, k⟩ => by
    simp only [evS] at h
    split at h
    · cases h
    · rename_i hf
      cases h1 : ev cf x env s with
      | none => rw [h1] at h; cases h
      | some q =>
        obtain ⟨d, env1, s1⟩ := q
        rw [h1] at h
        cases h
        refine T.run S h1 fun v H1 tmp1 ow1 z1 S1 F1 w1 => fun z' => ?_
        obtain ⟨tmp2, S2, F2, w2⟩ := w1.mono (c := ff) (fun hff => by rw [hff] at hf; simpa using hf) S1 F1
        exact k v σ H1 tmp2 ow1 env1 z' S2 F2 w2
theorem s_retN : PS X (.Return none pos) (TSt cf ff fuel .retN) :=
  PS.mk' ps_retN fun D σ H z ⟨g, ow, env, s, o, S, h, k⟩ => by
    simp only [evS] at h
    split at h
    · cases h
    · rename_i hf
      cases h
      exact fun z' => k .non σ H [] ow env z' S .refl (.inl ⟨rfl, .non, fun h => absurd h hf⟩)
theorem s_brk : PS X (.Break pos) (TSt cf ff fuel .brk) := PS.mk' ps_break fun D σ H z ⟨g, ow, env, s, o, S, h, k⟩ => by
  cases h
  exact fun z' => k σ H ow z' S .refl
theorem s_cnt : PS X (.Continue pos) (TSt cf ff fuel .cnt) := PS.mk' ps_continue fun D σ H z ⟨g, ow, env, s, o, S, h, k⟩ => by
  cases h
  exact fun z' => k σ H ow z' S .refl
theorem s_bad : PS X st (TSt cf ff fuel .bad) := PS.mk' ps_never fun D σ H z ⟨g, ow, env, s, o, S, h, k⟩ => by
  simp [evS] at h
theorem s_if {t1 t2 : List Stmt} {m1 m2 : List Sm} (hc : PT X c (TT' cf ec)) (h1 : PSs X t1 (TSs cf ff fuel m1)) (h2 : PSs X t2 (TSs cf ff fuel m2)) : PS X (.If c t1 t2 pos) (TSt cf ff fuel (.ite ec m1 m2)) :=
  PS.mk' (ps_if hc h1 h2) fun D σ H z ⟨g, ow, env, s, o, S, h, k⟩ => by
    simp only [evS] at h
    cases h3 : ev cf ec env s with
    | none => rw [h3] at h; cases h
    | some q =>
      obtain ⟨d, env1, s1⟩ := q
      rw [h3] at h
      cases d with
      | bl c =>
        refine ⟨g, [], ow, env, s, c, env1, s1, S, h3, fun H1 ow1 z1 S1 F1 => ?_⟩
        cases c with
        | true =>
          dsimp only at h ⊢
          rw [if_pos rfl] at h
          rw [if_pos rfl]
          exact ⟨g, ow1, env1, s1, o, S1, h, (k.from F1).sz⟩
        | false =>
          dsimp only at h ⊢
          rw [if_neg Bool.false_ne_true] at h
          rw [if_neg Bool.false_ne_true]
          exact ⟨g, ow1, env1, s1, o, S1, h, (k.from F1).sz⟩
      | _ => simp at h
/-- while -/
theorem s_while {body : List Stmt} {mb : List Sm} (hp : PassesOwn (model X.prog X.w) X.A X.env X.xe) (hc : PT X c (TT' cf ec)) (hb : PSs X body (TSs cf ff fuel mb)) : PS X (.While c body [] pos) (TSt cf ff fuel (.whl ec mb)) :=
  PS.mk' (ps_while hp hc hb) fun D σ H z ⟨g, ow, env, s, o, S, h, k⟩ => by
    simp only [evS] at h
    refine ⟨fun m σ1 H1 => ∃ ow1 env1 s1, Stt g [] ow1 σ1 H1 env1 s1 ∧ Frm (Av g [] ow) (Av g [] ow1) [] H H1 ∧ whlT (fun env s => ev cf ec env s) (fun env s => evSs cf ff fuel mb env s) m env1 s1 = some o, ⟨fuel, ow, env, s, S, .refl, h⟩, ?_⟩
    rintro m σ1 H1 ⟨ow1, env1, s1, S1, F1, h1⟩
    cases m with
    | zero => simp [whlT] at h1
    | succ n =>
      simp only [whlT] at h1
      cases h2 : ev cf ec env1 s1 with
      | none => rw [h2] at h1; cases h1
      | some q =>
        obtain ⟨d, env2, s2⟩ := q
        rw [h2] at h1
        cases d with
        | bl c =>
          refine ⟨g, [], ow1, env1, s1, c, env2, s2, S1, h2, fun H2 ow2 z2 S2 F2 => ?_⟩
          have F12 := F1.trans F2 fun _ h => h
          cases c with
          | true =>
            dsimp only at h1 ⊢
            rw [if_pos rfl]
            refine ⟨fun σ' H' => ∃ ow3 env3 s3, Stt g [] ow3 σ' H' env3 s3 ∧ Frm (Av g [] ow) (Av g [] ow3) [] H H' ∧ whlT (fun env s => ev cf ec env s) (fun env s => evSs cf ff fuel mb env s) n env3 s3 = some o, fun σ' H' w => ⟨n, Nat.lt_succ_self n, w⟩, ?_⟩
            cases h3 : evSs cf ff fuel mb env2 s2 with
            | none => rw [h3] at h1; cases h1
            | some o1 =>
              rw [h3] at h1
              refine ⟨g, ow2, env2, s2, o1, S2, h3, ?_⟩
              cases o1 with
              | nx env3 s3 => exact fun σ' H' ow' z' S' F' => ⟨ow', env3, s3, S', F12.trans F' fun _ h => h, h1⟩
              | ct env3 s3 => exact fun σ' H' ow' z' S' F' => ⟨ow', env3, s3, S', F12.trans F' fun _ h => h, h1⟩
              | bk env3 s3 => cases h1; exact (k.from F12).sz
              | rt d s3 => cases h1; exact (k.from F12).sz
          | false =>
            dsimp only at h1 ⊢
            rw [if_neg Bool.false_ne_true]
            cases h1
            exact fun z' => k σ1 H2 ow2 z' S2 F12
        | _ => simp at h1
/-- for -/
theorem s_for {tg iter : Expr} {kk : Ik} {xs : List Ex} {gg : Tg} {body : List Stmt} {mb : List Sm} (hp : PassesOwn (model X.prog X.w) X.A X.env X.xe) (hc : X.calm = true) (hi : PI X tg iter (TIof cf kk xs)) (hg : PG X tg (TGt X.K gg)) (hb : PSs X body (TSs cf ff fuel mb))
    (hs : ∀ x, foldedSetIterable iter X.env x = pure x := by intro _; rfl) (hok : okT gg kk = true := by rfl) : PS X (.For tg iter body [] pos) (TSt cf ff fuel (.for gg kk xs mb)) :=
  PS.mk' (ps_for hp hc hi hg hb hs) fun D σ H z ⟨g, ow, env, s, o, S, h, k⟩ => by
    simp only [evS] at h
    cases h1 : evOs cf xs env s with
    | none => rw [h1] at h; cases h
    | some q =>
      obtain ⟨ds, env1, s1⟩ := q
      rw [h1] at h
      dsimp only at h
      cases h2 : walk kk ds with
      | none => rw [h2] at h; cases h
      | some zs =>
        rw [h2] at h
        dsimp only at h
        refine ⟨g, [], ow, env, s, ds, zs, env1, s1, S, h1, h2, fun J H1 ow1 z1 S1 F1 it => ?_⟩
        refine ⟨fun i m σ2 H2 => ∃ ow2 env2 s2, Stt g [] ow2 σ2 H2 env2 s2 ∧ Frm (Av g [] ow1) (Av g [] ow2) [] H1 H2 ∧ forT (fun x env s => match bindT gg x env with | some env => evSs cf ff fuel mb env s | none => none) (zs.drop i) env2 s2 = some o ∧ m = zs.length - i ∧ i ≤ zs.length, ⟨zs.length, ow1, env1, s1, S1, .refl, h, by simp, by omega⟩, ?_⟩
        rintro i m σ2 H2 ⟨ow2, env2, s2, S2, F2, ht, hm, hile⟩
        have F12 := F1.trans F2 fun _ h => h
        by_cases hi : i < zs.length
        · refine .inr ⟨it.go _ H2 i F2 hi, ?_⟩
          have hget : zs[i]? = some zs[i] := List.getElem?_eq_getElem hi
          rw [List.drop_eq_getElem_cons hi] at ht
          simp only [forT] at ht
          refine ⟨fun σ' H' => ∃ ow3 env3 s3, Stt g [] ow3 σ' H' env3 s3 ∧ Frm (Av g [] ow1) (Av g [] ow3) [] H1 H' ∧ forT (fun x env s => match bindT gg x env with | some env => evSs cf ff fuel mb env s | none => none) (zs.drop (i + 1)) env3 s3 = some o, fun σ' H' ⟨ow3, env3, s3, a1, a2, a3⟩ => ⟨zs.length - (i + 1), by omega, ow3, env3, s3, a1, a2, a3, rfl, by omega⟩, fun v H3 hy => ?_⟩
          have yl := it.yld _ H2 i zs[i] v H3 F2 hget hy
          cases h3 : bindT gg zs[i] env2 with
          | none => rw [h3] at ht; cases ht
          | some env3 =>
            rw [h3] at ht
            dsimp only at ht
            refine yl_bind S2 yl hok h3 fun σ4 ow4 S4 F4 _ _ => ?_
            have F24 := F2.trans F4 fun _ h => h
            cases h4 : evSs cf ff fuel mb env3 s2 with
            | none => rw [h4] at ht; cases ht
            | some o1 =>
              rw [h4] at ht
              refine ⟨g, ow4, env3, s2, o1, S4, h4, ?_⟩
              cases o1 with
              | nx env5 s5 => exact fun σ' H' ow' z' S' F' => ⟨ow', env5, s5, S', F24.trans F' fun _ h => h, ht⟩
              | ct env5 s5 => exact fun σ' H' ow' z' S' F' => ⟨ow', env5, s5, S', F24.trans F' fun _ h => h, ht⟩
              | bk env5 s5 => cases ht; exact (k.from (F1.trans F24 fun _ h => h)).sz
              | rt d s5 => cases ht; exact (k.from (F1.trans F24 fun _ h => h)).sz
        · have hd : zs.drop i = [] := List.drop_eq_nil_of_le (by omega)
          rw [hd] at ht
          cases ht
          exact .inl ⟨it.stop _ H2 i F2 (by omega), fun z' => k σ2 H2 ow2 z' S2 F12⟩
end
end Rf
end

section
set_option linter.all false
set_option Elab.async false
set_option maxRecDepth 100000
namespace Rf
open PySem L2

theorem ownL_at {env : Env} {i : Nat} (h : ownL env i = true) : ∃ xs, env[i]? = some (some (true, .lst xs)) := by
  unfold ownL at h
  split at h
  · exact ⟨_, by assumption⟩
  · cases h
theorem Stt.ownAt {g : Gp} {tmp : List Addr} {ow : Ow} {σ : St} {H : Hp} {env : Env} {s : Sr} {i : Nat} {d : D} (S : Stt g tmp ow σ H env s) (e : env[i]? = some (some (true, d))) (hc : d.chg = true) : ∃ a, ow i = some a ∧ σ[i]? = some (some (.ref a)) ∧ Top g.aS (Av g tmp ow) H a d := by
  obtain ⟨v, e1, q⟩ := S.slot i _ _ e
  rcases q with ⟨a, h1, _, rfl, t⟩ | ⟨_, h2, _⟩
  · exact ⟨a, h1, e1, t⟩
  · rw [h2 rfl] at hc; cases hc
theorem Top.lstAt {aS : AS} {A : Addr → Prop} {H : Hp} {a : Addr} {ds : List D} (t : Top aS A H a (.lst ds)) : ∃ us, H a = Option.some (HO.lst us) ∧ RepL aS A H us ds := by
  cases t with | lst h r => exact ⟨_, h, r⟩
/-- a chosen object changed: what doesn't hang on it stays -/
theorem frm_upd {A : Addr → Prop} {tmp : List Addr} {H : Hp} {a : Addr} {o : HO} (ha : A a) (nt : a ∉ tmp) : Frm A A tmp H (upd H a o) := by
  refine ⟨fun b u hn q => ?_, fun _ z => .inl z, fun b hb => upd_ne (fun e => nt (by rw [← e]; exact hb))⟩
  have hne : b ≠ a := fun e => hn (by rw [e]; exact ha)
  rw [upd_ne hne]; exact q
theorem place_lt {n : Nat} {i : Int} {j : Nat} (h : place n i = some j) : j < n ∧ -(n : Int) ≤ i ∧ i < n ∧ seqIndex? i n = some j := by
  have h' : ixN n i = some j := h
  obtain ⟨h1, h2, h3, h4⟩ := ixN_seq h'
  exact ⟨h2, h3, h4, h1⟩
theorem Frm.mono {A A' : Addr → Prop} {t u : List Addr} {H H' : Hp} (f : Frm A A' t H H') (h : ∀ a ∈ u, a ∈ t) : Frm A A' u H H' := ⟨f.keep, f.grow, fun a ha => f.tops a (h a ha)⟩
section
variable {X : Cx} {cf : Cf} {ff : Bool} {fuel : Nat} {a b c e o : Expr} {x y w ea eb ec : Ex} {pos p apos cpos tpos : Pos} {i : Nat} {xs : List Ex}
theorem to_one {σ : St} {H : Hp} {K : VK} (h : TOs cf [x] σ H (fun vs H1 => K (vs.getD 0 .non) H1)) : TO cf x σ H K := h
/-- x.append(e) -/
theorem s_app (ho : PE X o (tVar i)) (he : PE X e (T cf x)) (hbase : attributeBase o "append" X.env (eval o X.env) = eval o X.env := by rfl)
    (hfew : ((backTo cpos (starEach [e] X.env)).all (fun x => !x.1) && (backToKw cpos (keywordEach [] X.env)).all (fun x => x.1.isSome) && decide ([e].length + ([] : List Keyword).length + (if ([] : List Keyword).isEmpty then 0 else 1) < 30)) = true := by rfl)
    (hline : (apos.endLine == cpos.line) = true := by rfl) (hs : starEach [e] X.env = (false, eval e X.env) :: starEach [] X.env := by rfl) (hplain : (backTo cpos (starEach [] X.env)).any (·.1) = false := by rfl)
    (hsw : swapsWith (.Call (.Attribute o "append" apos) [e] [] cpos) none pos.line X.env = pure false := by rfl) :
    PS X (.Expr (.Call (.Attribute o "append" apos) [e] [] cpos) pos) (TSt cf ff fuel (.app i x)) := by
  refine PS.mk' (ps_expr (pe_bm F.plainAttrs_list F.slot_list_append F.type_list_append mt_append ho (pa_cons he pa_nil hs) hbase hfew hline hs hplain) hsw) fun D σ H z ⟨g, ow, env, s, out, S, h, k⟩ => ?_
  simp only [evS] at h
  split at h
  · rename_i h0
    obtain ⟨ys, h0⟩ := ownL_at h0
    cases h1 : ev cf x env s with
    | none => rw [h1] at h; cases h
    | some q =>
      obtain ⟨d, env1, s1⟩ := q
      rw [h1] at h
      dsimp only at h
      split at h
      · rename_i zs h2
        split at h
        · rename_i hl
          cases h
          obtain ⟨l, hl1, hl2, hl3⟩ := S.ownAt h0 rfl
          obtain ⟨us, hus, _⟩ := hl3.lstAt
          refine ⟨.ref l, hl2, .inl ⟨rfl, us, SqL.of hus⟩, ?_⟩
          show T cf x σ H _
          refine T.weak S h1 fun v H1 ow1 z1 S1 F1 r1 => ?_
          obtain ⟨l', hm1, hm2, hm3⟩ := S1.ownAt h2 rfl
          rw [hl2] at hm2
          cases hm2
          obtain ⟨ws, hws, rws⟩ := hm3.lstAt
          refine ⟨l, ws, v, rfl, rfl, hws, by rw [rws.length]; exact hl, fun z' => ?_⟩
          have F2 := frm_upd (o := .lst (ws ++ [v])) (H := H1) (tmp := []) (A := Av g [] ow1) (.inr (.inr (.inr (.inr ⟨i, hm1⟩)))) (by simp)
          obtain ⟨S3, F3⟩ := S1.chgOwn hm1 h2 (o := .lst (ws ++ [v])) (d' := .lst (zs ++ [d])) (.lst upd_same ((rws.append (.cons r1 .nil)).frm F2))
          exact k σ _ ow1 z' S3 (F1.trans F3 fun _ h => h)
        · cases h
      · cases h
  · cases h
/-- x.extend(y) -/
theorem s_ext (ho : PE X o (tVar i)) (he : PE X e (TO cf x)) (hbase : attributeBase o "extend" X.env (eval o X.env) = eval o X.env := by rfl)
    (hfew : ((backTo cpos (starEach [e] X.env)).all (fun x => !x.1) && (backToKw cpos (keywordEach [] X.env)).all (fun x => x.1.isSome) && decide ([e].length + ([] : List Keyword).length + (if ([] : List Keyword).isEmpty then 0 else 1) < 30)) = true := by rfl)
    (hline : (apos.endLine == cpos.line) = true := by rfl) (hs : starEach [e] X.env = (false, eval e X.env) :: starEach [] X.env := by rfl) (hplain : (backTo cpos (starEach [] X.env)).any (·.1) = false := by rfl)
    (hsw : swapsWith (.Call (.Attribute o "extend" apos) [e] [] cpos) none pos.line X.env = pure false := by rfl) :
    PS X (.Expr (.Call (.Attribute o "extend" apos) [e] [] cpos) pos) (TSt cf ff fuel (.ext i [x])) := by
  refine PS.mk' (ps_expr (pe_bm F.plainAttrs_list F.slot_list_extend F.type_list_extend mt_extend ho (pa_cons he pa_nil hs) hbase hfew hline hs hplain) hsw) fun D σ H z ⟨g, ow, env, s, out, S, h, k⟩ => ?_
  simp only [evS] at h
  split at h
  · rename_i h0
    obtain ⟨ys, h0⟩ := ownL_at h0
    cases h1 : evOs cf [x] env s with
    | none => rw [h1] at h; cases h
    | some q =>
      obtain ⟨ds, env1, s1⟩ := q
      obtain ⟨d, rfl⟩ := evOs_one h1
      rw [h1] at h
      dsimp only at h
      split at h
      · rename_i ts zs h2
        split at h
        · rename_i hl
          cases h
          obtain ⟨l, hl1, hl2, hl3⟩ := S.ownAt h0 rfl
          obtain ⟨us, hus, _⟩ := hl3.lstAt
          refine ⟨.ref l, hl2, .inl ⟨rfl, us, SqL.of hus⟩, ?_⟩
          show TOs cf [x] σ H _
          refine ops_run S h1 z fun vs H1 ow1 z1 S1 F1 r1 => ?_
          obtain ⟨v, rfl, rv⟩ := r1.one
          obtain ⟨l', hm1, hm2, hm3⟩ := S1.ownAt h2 rfl
          rw [hl2] at hm2
          cases hm2
          obtain ⟨ws, hws, rws⟩ := hm3.lstAt
          obtain ⟨q, qs, rfl, hq, rq⟩ := rv.lst
          refine ⟨l, q, ws, qs, rfl, rfl, hws, hq, by rw [rws.length, rq.length]; exact hl, fun z' => ?_⟩
          have F2 := frm_upd (o := .lst (ws ++ qs)) (H := H1) (tmp := []) (A := Av g [] ow1) (.inr (.inr (.inr (.inr ⟨i, hm1⟩)))) (by simp)
          obtain ⟨S3, F3⟩ := S1.chgOwn hm1 h2 (o := .lst (ws ++ qs)) (d' := .lst (zs ++ ts)) (.lst upd_same ((rws.append rq).frm F2))
          exact k σ _ ow1 z' S3 (F1.trans F3 fun _ h => h)
        · cases h
      · cases h
  · cases h
/-- x.pop() -/
theorem r_pop (ho : PE X o (tVar i)) (hbase : attributeBase o "pop" X.env (eval o X.env) = eval o X.env := by rfl) (hline : (apos.endLine == cpos.line) = true := by rfl) : PE X (.Call (.Attribute o "pop" apos) [] [] cpos) (T cf (.pop i)) := by
  refine PE.mk' (pe_bm0 F.plainAttrs_list F.slot_list_pop F.type_list_pop mt_pop ho hbase hline) fun σ H Q z ⟨g, tmp, ow, env, s, d, env', s', S, h, k⟩ => ?_
  simp only [ev] at h
  split at h
  · rename_i zs h0
    split at h
    · rename_i d0 hd
      cases h
      obtain ⟨l, hl1, hl2, hl3⟩ := S.ownAt h0 rfl
      obtain ⟨us, hus, rus⟩ := hl3.lstAt
      rw [List.getLast?_eq_getElem?] at hd
      obtain ⟨v, hv, rv⟩ := rus.get hd
      refine ⟨.ref l, hl2, .inl ⟨rfl, us, SqL.of hus⟩, l, us, v, rfl, rfl, hus, by rw [rus.length]; exact hv, fun z' => ?_⟩
      have nt := (S.owN i l hl1).1
      have F2 := frm_upd (o := .lst us.dropLast) (H := H) (tmp := tmp) (A := Av g tmp ow) (.inr (.inr (.inr (.inr ⟨i, hl1⟩)))) nt
      obtain ⟨S3, F3⟩ := S.chgOwn hl1 h0 (o := .lst us.dropLast) (d' := .lst zs.dropLast) (.lst upd_same (rus.dropLast.frm F2))
      exact k v _ tmp ow z' S3 F3 (.inl ⟨rfl, rv.frm F2, fun h => by cases h⟩)
    · cases h
  · cases h
/-- x.pop(k) -/
theorem r_popAt (ho : PE X o (tVar i)) (he : PE X e (TO cf x)) (hbase : attributeBase o "pop" X.env (eval o X.env) = eval o X.env := by rfl)
    (hfew : ((backTo cpos (starEach [e] X.env)).all (fun x => !x.1) && (backToKw cpos (keywordEach [] X.env)).all (fun x => x.1.isSome) && decide ([e].length + ([] : List Keyword).length + (if ([] : List Keyword).isEmpty then 0 else 1) < 30)) = true := by rfl)
    (hline : (apos.endLine == cpos.line) = true := by rfl) (hs : starEach [e] X.env = (false, eval e X.env) :: starEach [] X.env := by rfl) (hplain : (backTo cpos (starEach [] X.env)).any (·.1) = false := by rfl) :
    PE X (.Call (.Attribute o "pop" apos) [e] [] cpos) (T cf (.popAt i [x])) := by
  refine PE.mk' (pe_bm F.plainAttrs_list F.slot_list_pop F.type_list_pop mt_popAt ho (pa_cons he pa_nil hs) hbase hfew hline hs hplain) fun σ H Q z ⟨g, tmp, ow, env, s, d, env', s', S, h, k⟩ => ?_
  simp only [ev] at h
  split at h
  · rename_i h0
    obtain ⟨ys, h0⟩ := ownL_at h0
    cases h1 : evOs cf [x] env s with
    | none => rw [h1] at h; cases h
    | some q =>
      obtain ⟨ds, env1, s1⟩ := q
      obtain ⟨dk, rfl⟩ := evOs_one h1
      rw [h1] at h
      cases dk with
      | int kk =>
        dsimp only at h
        split at h
        · rename_i zs h2
          split at h
          · rename_i j hj
            split at h
            · rename_i d0 hd
              cases h
              obtain ⟨l, hl1, hl2, hl3⟩ := S.ownAt h0 rfl
              obtain ⟨us0, hus0, _⟩ := hl3.lstAt
              refine ⟨.ref l, hl2, .inl ⟨rfl, us0, SqL.of hus0⟩, ?_⟩
              show TOs cf [x] σ H _
              refine ops_run S h1 z fun vs H1 ow1 z1 S1 F1 r1 => ?_
              obtain ⟨v, rfl, rv⟩ := r1.one
              obtain rfl := rv.int
              obtain ⟨l', hm1, hm2, hm3⟩ := S1.ownAt h2 rfl
              rw [hl2] at hm2
              cases hm2
              obtain ⟨us, hus, rus⟩ := hm3.lstAt
              obtain ⟨v, hv, rv⟩ := rus.get hd
              obtain ⟨p1, p2, p3, p4⟩ := place_lt hj
              have hz : us.length ≤ szLine := z1 l us (.inl hus)
              have hzl : szLine = 16777216 := rfl
              have hul := rus.length
              refine ⟨l, us, kk, j, v, rfl, rfl, hus, by omega, by omega, by rw [hul]; exact p4, hv, fun z' => ?_⟩
              have nt := (S1.owN i l hm1).1
              have F2 := frm_upd (o := .lst (us.eraseIdx j)) (H := H1) (tmp := tmp) (A := Av g tmp ow1) (.inr (.inr (.inr (.inr ⟨i, hm1⟩)))) nt
              obtain ⟨S3, F3⟩ := S1.chgOwn hm1 h2 (o := .lst (us.eraseIdx j)) (d' := .lst (zs.eraseIdx j)) (.lst upd_same ((rus.eraseIdx j).frm F2))
              exact k v _ tmp ow1 z' S3 (F1.trans F3 fun _ h => h) (.inl ⟨rfl, rv.frm F2, fun h => by cases h⟩)
            · cases h
          · cases h
        · cases h
      | _ => simp at h
  · cases h
/-- o[k] = e -/
theorem pset_alt {t t' : TSet} (h : PSet X t) (h' : PSet X t') : PSet X (fun o i v H Q => t o i v H Q ∨ t' o i v H Q) :=
  fun pins s σ H o i v ov iv u Q I ro ri rv hw => hw.elim (h pins s σ H o i v ov iv u Q I ro ri rv) (h' pins s σ H o i v ov iv u Q I ro ri rv)
theorem setD_split {c k d c' : D} (h : setD c k d = some c') : (∃ xs n j, c = .lst xs ∧ k = .int n ∧ place xs.length n = some j ∧ c' = .lst (xs.set j d)) ∨ (∃ t kvs, c = .dct t kvs ∧ keyOk t k = true ∧ kvs.length < szLine ∧ c' = .dct t (put k d kvs)) := by
  unfold setD at h
  split at h
  · split at h
    · cases h; exact .inl ⟨_, _, _, rfl, rfl, by assumption, rfl⟩
    · cases h
  · split at h
    · rename_i hc
      rw [Bool.and_eq_true, decide_eq_true_eq] at hc
      cases h
      exact .inr ⟨_, _, rfl, hc.1, hc.2, rfl⟩
    · cases h
  · cases h
theorem s_set (C : Cok X) (ho : PE X o (tVar i)) (hk : PE X b (TO cf x)) (he : PE X e (T cf y))
    (ha : ∀ v, assign (.Subscript o b tpos) X.env v = (do
      let ov ← holding [v] (eval o X.env)
      let iv ← holding [v, ov] (eval b X.env)
      standAt tpos
      holding [v, ov, iv] (setItem ov iv v)
      release [v, ov, iv] []) := by intro _; rfl)
    (hs : swapsWithSole [.Subscript o b tpos] e pos.line X.env = pure false := by rfl) (hw : swappedStores [.Subscript o b tpos] e X.env = pure none := by rfl) (h1 : (assignEach [.Subscript o b tpos] X.env).map (·.2) = [assign (.Subscript o b tpos) X.env] := by rfl) :
    PS X (.Assign [.Subscript o b tpos] e pos) (TSt cf ff fuel (.set i [x] y)) := by
  refine PS.mk' (ps_asg he (pg_sub ho hk (pset_alt set_list (set_dict (by have := C.units; omega))) ha) hs hw h1) fun D σ H z ⟨g, ow, env, s, out, S, h, k⟩ => ?_
  simp only [evS] at h
  cases h1 : ev cf y env s with
  | none => rw [h1] at h; cases h
  | some q =>
    obtain ⟨d, env1, s1⟩ := q
    rw [h1] at h
    dsimp only at h
    cases h2 : rd env1 i with
    | none => rw [h2] at h; cases h
    | some dd =>
      rw [h2] at h
      dsimp only at h
      cases h3 : evOs cf [x] env1 s1 with
      | none => rw [h3] at h; cases h
      | some q =>
        obtain ⟨ks, env2, s2⟩ := q
        obtain ⟨kd, rfl⟩ := evOs_one h3
        rw [h3] at h
        dsimp only at h
        split at h
        · rename_i c h4
          split at h
          · rename_i c' h5
            cases h
            refine T.weak S h1 fun v H1 ow1 z1 S1 F1 r1 => ?_
            obtain ⟨u, hu, _⟩ := S1.rd h2
            refine ⟨u, hu, ?_⟩
            refine to_one (ops_run S1 h3 z1 fun vs H2 ow2 z2 S2 F2 r2 => ?_)
            obtain ⟨kv, rfl, rk⟩ := r2.one
            have r1' := r1.frm F2
            have F12 := F1.trans F2 fun _ h => h
            rcases setD_split h5 with ⟨zs, n, j, rfl, rfl, hj, rfl⟩ | ⟨t, kvs, rfl, hkk, hlen, rfl⟩
            · obtain ⟨l, hm1, hm2, hm3⟩ := S2.ownAt h4 rfl
              rw [hu] at hm2
              cases hm2
              obtain ⟨us, hus, rus⟩ := hm3.lstAt
              obtain rfl := rk.int
              refine .inl ⟨l, us, n, j, rfl, rfl, hus, by rw [rus.length]; exact hj, fun z' => ?_⟩
              have F3 := frm_upd (o := .lst (us.set j v)) (H := H2) (tmp := []) (A := Av g [] ow2) (.inr (.inr (.inr (.inr ⟨i, hm1⟩)))) (by simp)
              obtain ⟨S4, F4⟩ := S2.chgOwn hm1 h4 (o := .lst (us.set j v)) (d' := .lst (zs.set j d)) (.lst upd_same ((RepL.set r1' j rus).frm F3))
              exact k σ _ ow2 z' S4 (F12.trans F4 fun _ h => h)
            · obtain ⟨l, hm1, hm2, hm3⟩ := S2.ownAt h4 rfl
              rw [hu] at hm2
              cases hm2
              have hA : Av g [] ow2 l := .inr (.inr (.inr (.inr ⟨i, hm1⟩)))
              cases hm3 with
              | @dctK kv0 _ hK hok rK =>
                have hkk' : ∃ n, kd = .int n := by cases kd <;> simp [keyOk] at hkk <;> exact ⟨_, rfl⟩
                obtain ⟨n, rfl⟩ := hkk'
                obtain rfl := rk.int
                have hl2 : kv0.length = kvs.length := by have := rK.length; simpa using this
                obtain ⟨q1, q2⟩ := put_ok kD (fun _ _ => kD_inj) (k := (Sum.inl n : Key)) (v := v) (d := d) hok rK r1'
                refine .inr ⟨l, _, rfl, .inl ⟨kv0, .inl n, hK, rfl, by rw [hl2]; exact hlen, rfl⟩, fun z' => ?_⟩
                have F3 := frm_upd (o := .dK (putK kv0 (.inl n) v)) (H := H2) (tmp := []) hA (by simp)
                obtain ⟨S4, F4⟩ := S2.chgOwn hm1 h4 (o := .dK (putK kv0 (.inl n) v)) (d' := .dct false (put (.int n) d kvs)) (.dctK upd_same q1 (q2.frm F3))
                exact k σ _ ow2 z' S4 (F12.trans F4 fun _ h => h)
              | @dctT kv0 _ hfz hK hok rK =>
                obtain ⟨bb, ns, rfl, _, hb, ek⟩ := tupKey hfz rk hkk
                have hl2 : kv0.length = kvs.length := by have := rK.length; simpa using this
                obtain ⟨q1, q2⟩ := put_ok kTD (fun _ _ => kTD_inj) (k := (ns.map Sum.inl : List Key)) (v := v) (d := d) hok rK r1'
                rw [ek] at q1 q2
                refine .inr ⟨l, _, rfl, .inr ⟨kv0, ns.map Sum.inl, bb, hK, rfl, hb, by rw [hl2]; exact hlen, rfl⟩, fun z' => ?_⟩
                have F3 := frm_upd (o := .dT (putK kv0 (ns.map Sum.inl) v)) (H := H2) (tmp := []) hA (by simp)
                obtain ⟨S4, F4⟩ := S2.chgOwn hm1 h4 (o := .dT (putK kv0 (ns.map Sum.inl) v)) (d' := .dct true (put kd d kvs)) (.dctT hfz upd_same q1 (q2.frm F3))
                exact k σ _ ow2 z' S4 (F12.trans F4 fun _ h => h)
          · cases h
        · cases h
/-- x op= e, ints -/
theorem aug_core {op : Bop} {f : Int → Int → Int} (hop : ∀ u v d, binD op u v = some (.int d) → ∃ m n, u = .int m ∧ v = .int n ∧ d = f m n) {D : Ends} {σ : St} {H : Hp} (z : SzOk H) (h : TSt cf ff fuel (.aug i op [x]) D σ H) : tAug i (TO cf x) (ipI f) (szD D) σ H := by
  obtain ⟨g, ow, env, s, out, S, h, k⟩ := h
  simp only [evS] at h
  cases h0 : rdV env i with
  | none => rw [h0] at h; cases h
  | some d0 =>
    rw [h0] at h
    dsimp only at h
    cases h1 : evOs cf [x] env s with
    | none => rw [h1] at h; cases h
    | some q =>
      obtain ⟨ds, env1, s1⟩ := q
      obtain ⟨d1, rfl⟩ := evOs_one h1
      rw [h1] at h
      dsimp only at h
      split at h
      · rename_i d hd
        cases h
        obtain ⟨m, n, rfl, rfl, rfl⟩ := hop _ _ _ hd
        have h2 : env[i]? = some (some (false, .int m)) := by
          unfold rdV at h0
          split at h0
          · rename_i e; cases h0; exact e
          · cases h0
        obtain ⟨v, e1, q⟩ := S.slot i _ _ h2
        have hv : v = .int m := by
          rcases q with ⟨a, _, h3, _⟩ | ⟨_, _, r⟩
          · cases h3
          · cases r; rfl
        subst hv
        refine ⟨_, e1, ?_⟩
        refine to_one (ops_run S h1 z fun vs H1 ow1 z1 S1 F1 r1 => ?_)
        obtain ⟨u, rfl, ru⟩ := r1.one
        obtain rfl := ru.int
        refine ⟨m, n, rfl, rfl, fun z' => ?_⟩
        obtain ⟨S2, F2⟩ := S1.put (i := i) (.int (f m n)) false (fun h => by cases h)
        exact k _ H1 _ z' S2 (F1.trans F2 fun _ h => h)
      · cases h
theorem s_augAdd {y : Str} {pos' : Pos} (hN : X.N.Nodup) (hi : X.N[i]? = some y) (hx : Loc X.env.scope y) (he : PE X e (TO cf x)) (hf : X.fn y = true ∨ X.env.scope.names.lookup y = some .local := by first | exact .inl rfl | exact .inr rfl | assumption) : PS X (.AugAssign (.Name y pos') .Add e pos) (TSt cf ff fuel (.aug i .add [x])) :=
  PS.mk' (ps_aug hN hi hx he ip_add hf) fun D σ H z h => aug_core (fun u v d q => by
    cases u <;> cases v <;> simp only [binD] at q <;> first | cases q | skip
    · exact ⟨_, _, rfl, rfl, rfl⟩
    · split at q <;> cases q
    · split at q <;> cases q) z h
theorem s_augSub {y : Str} {pos' : Pos} (hN : X.N.Nodup) (hi : X.N[i]? = some y) (hx : Loc X.env.scope y) (he : PE X e (TO cf x)) (hf : X.fn y = true ∨ X.env.scope.names.lookup y = some .local := by first | exact .inl rfl | exact .inr rfl | assumption) : PS X (.AugAssign (.Name y pos') .Sub e pos) (TSt cf ff fuel (.aug i .sub [x])) :=
  PS.mk' (ps_aug hN hi hx he ip_sub hf) fun D σ H z h => aug_core (fun u v d q => by
    cases u <;> cases v <;> simp only [binD] at q <;> first | cases q | skip
    exact ⟨_, _, rfl, rfl, rfl⟩) z h
end
end Rf
end

section
set_option linter.all false
set_option Elab.async false
set_option maxRecDepth 100000
namespace Rf
open PySem L2

/-! defs: what each promises -/
structure FnG (P : Program) (w : World) (K : PySem.W.Frag) (mg : Str → Option Value) (base : Heap) (k : Nat) (f : Addr) (fd : FuncData) (ps : List Str) (sp : List V → Hp → VK → Prop) : Prop where
  len : ∀ vs H Q, sp vs H Q → vs.length = ps.length
  go : ∀ (A : Around) (outer : List PySem.Env) (s : Shared) (H : Hp) (args : Args) (us : List Value) (vs : List V) (Q : VK), A.guards = some [] → Room k A → Env0 P w K mg base A outer s H → BindsTo s fd args (ps.zip us) → Vals vs us → sp vs H Q →
    codeAny (model P w) A (.call (.ref f) args) (CR CX0 outer P w H s Q E0) s
def noO : Ow := fun _ => none
/-- the state at an entry -/
structure Ent (g : Gp) (H : Hp) (s : Sr) (vs : List V) (ds : List D) : Prop where
  h0 : g.H0 = H
  src : SrcR g s H
  alive : ∀ a, Av g [] noO a → H a ≠ none
  args : RepL g.aS (Av g [] noO) H vs ds
/-- .. and behind it -/
structure Lv (g : Gp) (f : Bool) (H H' : Hp) (s' : Sr) (v : V) (d : D) (tmp : List Addr) : Prop where
  src : SrcR g s' H'
  same : ∀ a o, H a = some o → a ≠ g.aS.a → a ≠ g.aC → H' a = some o
  new : ∀ a ∈ tmp, Nw g a ∧ H' a ≠ none
  nd : tmp.Nodup
  val : Val f g [] tmp noO H' v d
def Prom (F : List D → Sr → Option (D × Sr)) (fresh : Bool) (np : Nat) : List V → Hp → VK → Prop := fun vs H Q => vs.length = np ∧ ∃ g s ds d s', Ent g H s vs ds ∧ F ds s = some (d, s') ∧ ∀ v H' tmp, Lv g fresh H H' s' v d tmp → Q v H'
section
variable {P : Program} {w : World} {K : PySem.W.Frag} {mg : Str → Option Value} {base : Heap}
theorem startE_len {n : Nat} {ds : List D} (h : ds.length ≤ n) : (startE n ds).length = n := by unfold startE; rw [List.length_append, List.length_map, List.length_replicate]; omega
theorem startE_at {n j : Nat} {ds : List D} {f : Bool} {d : D} (h : (startE n ds)[j]? = some (some (f, d))) : f = false ∧ ds[j]? = some d := by
  unfold startE at h
  by_cases hj : j < ds.length
  · rw [List.getElem?_append_left (by rw [List.length_map]; exact hj), List.getElem?_map, List.getElem?_eq_getElem hj] at h
    simp only [Option.map_some, Option.some.injEq, Prod.mk.injEq] at h
    exact ⟨h.1.symm, by rw [List.getElem?_eq_getElem hj, h.2]⟩
  · rw [List.getElem?_append_right (by rw [List.length_map]; omega), List.getElem?_replicate] at h
    split at h <;> simp at h
theorem start_at {N : List Str} {vs : List V} {j : Nat} {v : V} (h : vs[j]? = some v) : (L2.start N vs)[j]? = some (some v) := by
  obtain ⟨hj, e⟩ := List.getElem?_eq_some_iff.mp h
  unfold L2.start
  rw [List.getElem?_append_left (by rw [List.length_map]; exact hj), List.getElem?_map, h]
  rfl
/-- the state a body starts with -/
theorem ent_stt {g : Gp} {H : Hp} {s : Sr} {vs : List V} {ds : List D} {N : List Str} (E : Ent g H s vs ds) (h : ds.length ≤ N.length) : Stt g [] noO (L2.start N vs) H (startE N.length ds) s := by
  have hl := E.args.length
  have nd : ([] : List Addr).Nodup := List.nodup_nil
  refine ⟨?_, fun j f d e => ?_, fun i j a e => (by cases e), fun i a e => (by cases e), fun a ha => (by cases ha), nd, E.alive, fun a o e _ _ => (by have := E.h0; rw [← this]; exact e), E.src⟩
  · rw [startE_len h]
    unfold L2.start
    rw [List.length_append, List.length_map, List.length_replicate]; omega
  · obtain ⟨rfl, e'⟩ := startE_at e
    obtain ⟨v, e1, r⟩ := E.args.get e'
    exact ⟨v, start_at e1, .inr ⟨rfl, fun h => (by cases h), r⟩⟩
theorem av_noO {g : Gp} {tmp : List Addr} {ow : Ow} {a : Addr} (z : Av g tmp noO a) : Av g tmp ow a := by
  rcases z with z | z | z | z | ⟨i, z⟩
  · exact .inl z
  · exact .inr (.inl z)
  · exact .inr (.inr (.inl z))
  · exact .inr (.inr (.inr (.inl z)))
  · cases z
/-- a body's end -/
theorem lv_of {g : Gp} {H H' : Hp} {σ : St} {env : Env} {s : Sr} {tmp : List Addr} {ow : Ow} {f : Bool} {v : V} {d : D} (h0 : g.H0 = H) (S : Stt g tmp ow σ H' env s) (x : Val f g [] tmp ow H' v d) : Lv g f H H' s v d tmp := by
  have F : Frm (Av g tmp ow) (Av g tmp noO) [] H' H' := frm_shrink fun a z => av_noO z
  refine ⟨S.src, fun a o e h1 h2 => S.same a o (by rw [h0]; exact e) h1 h2, fun a ha => ⟨S.tmN a ha, S.tmpAlive a ha⟩, S.tmD, ?_⟩
  rcases x with ⟨h1, r, h2⟩ | ⟨h1, a, h2, h3, t⟩
  · exact .inl ⟨h1, r.frm F, h2⟩
  · exact .inr ⟨h1, a, h2, h3, t.frm F rfl⟩
theorem Val.notTop {g : Gp} {ow : Ow} {H' : Hp} {v : V} {d : D} {tmp : List Addr} (x : Val false g [] tmp ow H' v d) : tmp = [] := by
  rcases x with ⟨h, _⟩ | ⟨h, _⟩
  · exact h
  · cases h
/-- a body's context -/
abbrev bodyX (P : Program) (w : World) (K : PySem.W.Frag) (mg : Str → Option Value) (base : Heap) (N : List Str) (x : Str) (st : Stmt) (f : Addr) (cdv : Value) (A : Around) (outer : List PySem.Env) (s : Shared) (H : Hp) : Cx := (cxOf CX0 P w K mg base N x (defScope st) f cdv A outer s H E0).nox
theorem bodyX_ok {N ps : List Str} {x : Str} {st : Stmt} {f : Addr} {cdv : Value} {A : Around} {outer : List PySem.Env} {s : Shared} {H : Hp} {k : Nat} (S : FnScope N ps (defScope st)) (hg : A.guards = some []) (hr : Room k (A.deeper (PyProof.Rows.envOfC x (defScope st) s.heap.objs.size f cdv))) : Cok (bodyX P w K mg base N x st f cdv A outer s H) :=
  ⟨rfl, by have := hr.un; show (A.deeper (PyProof.Rows.envOfC x (defScope st) s.heap.objs.size f cdv)).units + 200 < cLine; omega, hg, S.nd⟩
/-- a def of the text runs its body -/
theorem fnG_of {x : Str} {st : Stmt} {f : Addr} {fd : FuncData} {N ps : List Str} {k : Nat} {sp : List V → Hp → VK → Prop} (Fx : Fun K x x st f fd) (S : FnScope N ps (defScope st)) (len : ∀ vs H Q, sp vs H Q → vs.length = ps.length)
    (body : ∀ (cdv : Value) (A : Around) (outer : List PySem.Env) (s : Shared) (H : Hp) (vs : List V) (Q : VK), A.guards = some [] → Room k (A.deeper (PyProof.Rows.envOfC x (defScope st) s.heap.objs.size f cdv)) → sp vs H Q →
      ∃ t, PSs (bodyX P w K mg base N x st f cdv A outer s H) (defBody st) t ∧ t { nx := fun _ H' => Q .non H', rt := Q } (L2.start N vs) H) : FnG P w K mg base (k + 1) f fd ps sp := by
  obtain ⟨oc, od, kV, doc, pm, an, cdv, ct, osl, rfl, lk, hcd⟩ := Fx.ex
  refine ⟨len, fun A outer s H args us vs Q hg hr e0 hb r hsp => ?_⟩
  have keep : ∀ b o, base.get? b = some o → s.heap.get? b = some o := fun b o e => (e0.bs b o e).1
  have kin : K.In s.heap := e0.mod.kin.keeps keep
  have par : ∀ y ∈ ps.zip us, (defScope st).names.lookup y.1 = some .local ∨ ((defScope st).names.lookup y.1 = some .cell ∧ ((PySem.cellsFrom (s.heap.objs.size + 1) (defScope st).names []).lookup y.1).isSome = true) := by
    rintro ⟨n, v⟩ hy
    exact (S.par n (List.of_mem_zip hy).1).imp id fun q => ⟨q, PySem.W.cellsFrom_some _ _ _ (.inl q)⟩
  refine codeAny_call_function hr.depth (kin _ _ lk) rfl S.co S.gen rfl (PySem.W.codeRec_of kin hcd) (hb _ _ _ _ (wpAny_newFunctionEnv_cells S.kind par fun env he s1 q => ?_))
  subst he
  refine ⟨(e0.mod.nolimit.keeps keep).keeps q.toInCall.keep, codeAny_func ?_⟩
  obtain ⟨t, ht, hq⟩ := body cdv A outer s H vs Q hg (hr.deeper _) hsp
  have I := inv_start (CX := CX0) (E := E0) S hr.hd e0 (len _ _ _ hsp) r q
  refine wpAny_mono (ht.nox.run [] s1 _ H _ I hq) (fun fl s' hs => ?_) fun _ _ hs => hs
  cases fl with
  | ret u => obtain ⟨v, σ', H', J, rv, w⟩ := hs; exact ⟨v, H', J.os, J.bare, J.base, J.hok, rv, w⟩
  | next => obtain ⟨σ', H', J, w⟩ := hs; exact ⟨.non, H', J.os, J.bare, J.base, J.hok, rfl, w⟩
  | brk => obtain ⟨_, _, _, w⟩ := hs; exact w.elim
  | cont => obtain ⟨_, _, _, w⟩ := hs; exact w.elim
theorem runF_split {cf : Cf} {fuel : Nat} {b : Fd} {ds : List D} {s s' : Sr} {d : D} (h : runF cf fuel b ds s = some (d, s')) : ds.length = b.np ∧ ∃ o, evSs cf b.fresh fuel b.body (startE b.ns ds) s = some o ∧ (o = .rt d s' ∨ (b.fresh = false ∧ d = .non ∧ ∃ env, o = .nx env s')) := by
  unfold runF at h
  split at h
  · rename_i hl
    refine ⟨hl, ?_⟩
    split at h
    · rename_i e
      cases h
      exact ⟨_, e, .inl rfl⟩
    · rename_i e
      split at h
      · cases h
      · rename_i hf
        cases h
        exact ⟨_, e, .inr ⟨by simpa using hf, rfl, _, rfl⟩⟩
    · cases h
  · cases h
theorem fn_prom {x : Str} {st : Stmt} {f : Addr} {fd : FuncData} {N ps : List Str} {k : Nat} {cf : Cf} {fuel : Nat} {b : Fd} (Fx : Fun K x x st f fd) (S : FnScope N ps (defScope st)) (h1 : b.np = ps.length) (h2 : b.ns = N.length)
    (body : ∀ (cdv : Value) (A : Around) (outer : List PySem.Env) (s : Shared) (H : Hp), A.guards = some [] → Room k (A.deeper (PyProof.Rows.envOfC x (defScope st) s.heap.objs.size f cdv)) → PSs (bodyX P w K mg base N x st f cdv A outer s H) (defBody st) (TSs cf b.fresh fuel b.body)) :
    FnG P w K mg base (k + 1) f fd ps (Prom (runF cf fuel b) b.fresh ps.length) := by
  refine fnG_of Fx S (fun vs H Q h => h.1) fun cdv A outer s H vs Q hg hr ⟨hl, g, sr, ds, d, s', E, hF, k⟩ => ⟨_, body cdv A outer s H hg hr, ?_⟩
  obtain ⟨hd, o, ho, hend⟩ := runF_split hF
  have hpl : ps.length ≤ N.length := by have := congrArg List.length S.pre; rw [List.length_take] at this; omega
  have S0 := ent_stt (N := N) E (by omega)
  rw [h2] at ho
  refine ⟨g, noO, _, sr, o, S0, ho, ?_⟩
  rcases hend with rfl | ⟨hf, rfl, env, rfl⟩
  · exact fun v σ' H' tmp' ow' env' z' S' F' x' => k v H' tmp' (lv_of E.h0 S' x')
  · exact fun σ' H' ow' z' S' F' => k .non H' [] (lv_of E.h0 S' (.inl ⟨rfl, .non, fun _ => rfl⟩))

/-! calls -/
structure Cal (P : Program) (w : World) (K : PySem.W.Frag) (mg : Str → Option Value) (base : Heap) (k : Nat) (cf : Cf) (i : Nat) (x : Str) (fresh : Bool) : Prop where
  ex : ∃ (f : Addr) (fd : FuncData) (ps : List Str), FnG P w K mg base k f fd ps (Prom (cf i) fresh ps.length) ∧ (∀ ds s r, cf i ds s = some r → ds.length = ps.length) ∧ mg x = some (.ref f) ∧ PySem.W.keepIn K (.ref f) = true ∧ L2.Binds K fd ps []
/-- at no depth nothing is called -/
theorem Cal.zero {k : Nat} {i : Nat} {x : Str} {fresh : Bool} {tb : Nat → Option Fn} {fuel : Nat} (h : ∃ (f : Addr) (fd : FuncData) (ps : List Str), mg x = some (.ref f) ∧ PySem.W.keepIn K (.ref f) = true ∧ L2.Binds K fd ps []) : Cal P w K mg base k (callF tb fuel 0) i x fresh := by
  obtain ⟨f, fd, ps, h1, h2, h3⟩ := h
  exact ⟨f, fd, ps, ⟨fun vs H Q h => h.1, fun A outer s H args us vs Q _ _ _ _ _ ⟨_, g, sr, ds, d, s', _, hF, _⟩ => (by cases hF)⟩, fun _ _ _ hF => (by cases hF), h1, h2, h3⟩
end
section
variable {g : Gp} {tmp : List Addr} {ow : Ow} {σ : St} {H H' : Hp} {env : Env} {s s' : Sr}
/-- behind a call: the frame's own things stand as they stood -/
theorem Stt.over (S : Stt g tmp ow σ H env s) (same : ∀ a o, H a = some o → a ≠ g.aS.a → a ≠ g.aC → H' a = some o) (src : SrcR g s' H') (t : List Addr) (ht : ∀ a ∈ t, H a = none ∧ H' a ≠ none) (nd : t.Nodup) :
    Stt g (t ++ tmp) ow σ H' env s' ∧ Frm (Av g tmp ow) (Av g (t ++ tmp) ow) tmp H H' := by
  have av : ∀ a, Av g (t ++ tmp) ow a → a ∈ t ∨ Av g tmp ow a := fun a z => by
    rcases z with z | z | z | z | z
    · exact .inr (.inl z)
    · exact .inr (.inr (.inl z))
    · exact .inr (.inr (.inr (.inl z)))
    · exact (List.mem_append.mp z).imp id fun z => .inr (.inr (.inr (.inl z)))
    · exact .inr (.inr (.inr (.inr (.inr z))))
  have kp : ∀ a, H a ≠ none → a ≠ g.aS.a → a ≠ g.aC → H' a = H a := fun a n h1 h2 => by
    cases q : H a with
    | none => exact absurd q n
    | some o => exact same a o q h1 h2
  have F : Frm (Av g tmp ow) (Av g (t ++ tmp) ow) tmp H H' := by
    refine ⟨fun a o hn q => same a o q (fun e => hn (.inr (.inl e))) (fun e => hn (.inr (.inr (.inl e)))), fun a z => ?_, fun a ha => ?_⟩
    · exact (av a z).elim (fun z => .inr (ht a z).1) .inl
    · obtain ⟨_, _, n1, n2⟩ := S.tmN a ha
      exact kp a (S.tmpAlive a ha) n1 n2
  refine ⟨⟨S.len, fun i f d e => ?_, S.inj, fun i a e => ?_, fun a ha => ?_, ?_, fun a z q => ?_, fun a o q h1 h2 => same a o (S.same a o q h1 h2) h1 h2, src⟩, F⟩
  · obtain ⟨v, e1, z⟩ := S.slot i f d e
    refine ⟨v, e1, ?_⟩
    rcases z with ⟨a, h1, h2, h3, tp⟩ | ⟨h1, h2, r⟩
    · obtain ⟨_, _, _, n1, n2⟩ := S.owN i a h1
      exact .inl ⟨a, h1, h2, h3, tp.frm F (kp a tp.some n1 n2)⟩
    · exact .inr ⟨h1, h2, r.frm F⟩
  · obtain ⟨h1, h2⟩ := S.owN i a e
    refine ⟨fun z => (List.mem_append.mp z).elim (fun z => ?_) h1, h2⟩
    exact S.alive a (.inr (.inr (.inr (.inr ⟨i, e⟩)))) (ht a z).1
  · exact (List.mem_append.mp ha).elim (fun z => S.new (ht a z).1) (S.tmN a)
  · exact List.nodup_append.mpr ⟨nd, S.tmD, fun a ha b hb e => S.tmpAlive b hb (e ▸ (ht a ha).1)⟩
  · rcases av a z with z | z
    · exact (ht a z).2 q
    · have n := S.alive a z
      by_cases h1 : a = g.aS.a
      · rw [h1, src.dic] at q; cases q
      · by_cases h2 : a = g.aC
        · rw [h2, src.cel] at q; cases q
        · rw [kp a n h1 h2] at q; exact n q
end
section
variable {X : Cx} {cf : Cf} {k i : Nat} {x : Str} {fresh : Bool} {p pos : Pos} {e : Expr} {es : List Expr} {xs : List Ex}
theorem pe_callG {f : Addr} {fd : FuncData} {ps : List Str} {sp : List V → Hp → VK → Prop} {t : TA} (Fx : FnG X.prog X.w X.K X.mg X.base k f fd ps sp) (hgd : X.A.guards = some []) (hr : Room k X.A) (hg : Gl X x) (hm : X.mg x = some (.ref f)) (hk : PySem.W.keepIn X.K (.ref f) = true) (hb : L2.Binds X.K fd ps [])
    (ha : PA X (e :: es) t) (hdb : (x == ("__debug__" : Str)) = false := by decide) (he : starEach (e :: es) X.env = (false, eval e X.env) :: starEach es X.env := by rfl) (hpl : (backTo pos (starEach es X.env)).any (·.1) = false := by rfl) :
    PE X (.Call (.Name x p) (e :: es) [] pos) (fun σ H Q => t σ H fun vs H1 => sp vs H1 Q) := by
  refine ⟨fun pins s σ H Q I h => wpAny_Call_Name_kw (ld_glob I hg hm ?_ hdb)⟩
  refine PySem.W.callWith_K (h₀ := X.base) I.ok.mod.kin hk (thn (ha.run pos pins s σ H _ I h) fun us s1 ⟨vs, H1, I1, r, q⟩ => ⟨I1.kIn, ?_⟩) he hpl
  have hl : (us ++ ([] : List Value)).length = ps.length := by rw [List.append_nil, ← r.length]; exact Fx.len _ _ _ q
  have hbb := hb s1 us I1.kIn hl
  rw [List.append_nil] at hbb
  refine wpAny_call (codeAny_mono (Fx.go X.A X.stack s1 H1 ⟨us, []⟩ us vs Q hgd hr I1.env0 hbb r q) fun r s' hq => ?_)
  match r, hq with
  | .ok (.ret u), hq => exact I1.after hq
  | .error e, hq => exact False.elim hq
theorem r_callF (C : Cok X) (hr : Room k X.A) (Fx : Cal X.prog X.w X.K X.mg X.base k cf i x fresh) (hg : Gl X x) (ha : PA X (e :: es) (TA' cf xs)) (hdb : (x == ("__debug__" : Str)) = false := by decide)
    (he : starEach (e :: es) X.env = (false, eval e X.env) :: starEach es X.env := by rfl) (hpl : (backTo pos (starEach es X.env)).any (·.1) = false := by rfl) : PE X (.Call (.Name x p) (e :: es) [] pos) (T cf (.call i fresh xs)) := by
  obtain ⟨f, fd, ps, F1, har, hm, hk, hb⟩ := Fx.ex
  refine PE.mk' (pe_callG F1 C.guards hr hg hm hk hb ha hdb he hpl) fun σ H Q z ⟨g, tmp, ow, env, s, d, env', s', S, hev, kont⟩ => ?_
  simp only [ev] at hev
  cases h1 : evs cf xs env s with
  | none => rw [h1] at hev; cases hev
  | some q =>
    obtain ⟨ds, env1, s1⟩ := q
    rw [h1] at hev
    dsimp only at hev
    cases h2 : cf i ds s1 with
    | none => rw [h2] at hev; cases hev
    | some q =>
      obtain ⟨d1, s2⟩ := q
      rw [h2] at hev
      simp only [Option.some.injEq, Prod.mk.injEq] at hev
      obtain ⟨rfl, rfl, rfl⟩ := hev
      refine ⟨g, tmp, ow, env, s, ds, env1, s1, S, h1, fun vs H1 ow1 z1 S1 F1' rs => ?_⟩
      have sub : ∀ a, Av ⟨g.aS, g.aC, Av g tmp ow1, H1⟩ [] noO a → Av g tmp ow1 a := fun a z => by
        rcases z with z | z | z | z | ⟨j, z⟩
        · exact z
        · exact .inr (.inl z)
        · exact .inr (.inr (.inl z))
        · cases z
        · cases z
      have F0 : Frm (Av g tmp ow1) (Av ⟨g.aS, g.aC, Av g tmp ow1, H1⟩ [] noO) [] H1 H1 := frm_shrink sub
      refine ⟨by rw [rs.length]; exact har _ _ _ h2, ⟨g.aS, g.aC, Av g tmp ow1, H1⟩, s1, ds, d1, s2, ⟨rfl, ⟨S1.src.dic, S1.src.cel, S1.src.fz⟩, fun a z => S1.alive a (sub a z), rs.frm F0⟩, h2, fun v H' tmp' L z' => ?_⟩
      have L5 := L.val
      have hnew : ∀ a ∈ tmp', H1 a = none ∧ H' a ≠ none := fun a ha => ⟨(L.new a ha).1.1, (L.new a ha).2⟩
      obtain ⟨S2, F2⟩ := S1.over L.same ⟨L.src.dic, L.src.cel, L.src.fz⟩ tmp' hnew L.nd
      have sub2 : ∀ a, Av g (tmp' ++ tmp) ow1 a → Av ⟨g.aS, g.aC, Av g tmp ow1, H1⟩ tmp' noO a := fun a z => by
        rcases z with z | z | z | z | z
        · exact .inl (.inl z)
        · exact .inr (.inl z)
        · exact .inr (.inr (.inl z))
        · exact (List.mem_append.mp z).elim (fun z => .inr (.inr (.inr (.inl z)))) fun z => .inl (.inr (.inr (.inr (.inl z))))
        · exact .inl (.inr (.inr (.inr (.inr z))))
      have G : Frm (Av ⟨g.aS, g.aC, Av g tmp ow1, H1⟩ tmp' noO) (Av g (tmp' ++ tmp) ow1) [] H' H' := frm_shrink sub2
      refine kont v H' (tmp' ++ tmp) ow1 z' S2 (F1'.trans F2 fun _ h => h) ?_
      rcases L5 with ⟨rfl, r, hc⟩ | ⟨hf, a, rfl, rfl, t⟩
      · exact .inl ⟨rfl, r.frm G, hc⟩
      · exact .inr ⟨hf, a, rfl, rfl, t.frm G rfl⟩
end
end Rf
end

section
set_option linter.all false
set_option Elab.async false
set_option maxRecDepth 100000
namespace Rf
open PySem L2 PyProof.Rows

/-! the law's own call -/
theorem lawG {P : Program} {w : World} {K : PySem.W.Frag} {mg mb : Str → Option Value} {k : Nat} {fa a : Addr} {fd : FuncData} {x : Str} {sp : List V → Hp → VK → Prop} {s1 : Shared} {vs : List Value} {ns : List Int}
    (kin : K.In s1.heap) (hns : s1.heap.Ns mainGlobals mg) (hmb : s1.heap.Ns builtinsNs mb) (hbb : ∀ x : Str, x ≠ "__name__" → mb x = bootBuiltins x) (lim : s1.heap.NoLimit) (hg : s1.gens = #[])
    (obj : s1.heap.get? a = some { cls := .type "list", data := .seq vs.toArray }) (hin : IntsAre vs ns) (hl : ns.length ≤ sizeLine) (hr : Room k callerA)
    (F : ∀ base : Heap, K.In base → base.Ns mainGlobals mg → FnG P w K mg base k fa fd [x] sp) (bind : ∀ (s : Shared) (u : Value), BindsTo s fd ⟨[u], []⟩ [(x, u)])
    (hsp : ∀ H : Hp, Only H → SqL K H a (ns.map V.int) → sp [.ref a] H (fun v _ => v = .bl true)) :
    codeAny (model P w) callerA (.call (.ref fa) ⟨[.ref a], []⟩) (fun r s' => r = .ok (.ret (.bool true)) ∧ OldK s1.heap s'.heap ∧ s'.os = s1.os ∧ AllBare s'.gens) s1 := by
  have hv := vals_ints hin
  have main : ∀ H : Hp, Only H → SqL K H a (ns.map V.int) → HOk P w H s1.heap → (∀ b, H b ≠ none → b = a ∧ K.lookup a = none) →
      codeAny (model P w) callerA (.call (.ref fa) ⟨[.ref a], []⟩) (fun r s' => r = .ok (.ret (.bool true)) ∧ OldK s1.heap s'.heap ∧ s'.os = s1.os ∧ AllBare s'.gens) s1 := by
    intro H only seq hok at_
    have offA : ∀ {b : Addr}, b ≠ a → H b = none := fun {b} n => by
      cases q : H b with
      | none => rfl
      | some u => exact absurd (at_ b (by rw [q]; simp)).1 n
    have dict : ∀ {b : Addr} {o : Obj} {es : Array DictEntry} {ep : Nat}, s1.heap.get? b = some o → o.data = .dict es ep → H b = none := fun {b o es ep} e d => offA fun z => by
      rw [z, obj] at e
      cases e
      cases d
    have ns' : ∀ {b : Addr} {m : Str → Option Value}, s1.heap.Ns b m → (hidT s1.heap H).Ns b m := fun {b m} ⟨o, es, ep, e, d, r⟩ => ⟨o, es, ep, hidT_get e (dict e d), d, r⟩
    have kb : K.In (hidT s1.heap H) := fun b o e => hidT_get (kin b o e) (by
      cases q : H b with
      | none => rfl
      | some u =>
        obtain ⟨rfl, n⟩ := at_ b (by rw [q]; simp)
        rw [n] at e; cases e)
    obtain ⟨mc, l1, l2⟩ := lim
    have noF : ∀ b ∈ frs ([] : List PySem.Env), H b = none := fun b hb => by cases hb
    have e0 : Env0 P w K mg (hidT s1.heap H) callerA [] s1 H := ⟨rfl, ⟨kb, ns' hns, ⟨mb, ns' hmb, hbb⟩, mc, ns' l1, l2⟩, fun _ _ => of_hidT, Nat.le_of_eq (hidT_size ..), trivial, noF, hok, .of_eq hg⟩
    refine codeAny_mono ((F _ kb (ns' hns)).go _ _ s1 H _ [Value.ref a] [V.ref a] _ rfl hr e0 (bind s1 (.ref a)) (.cons rfl .nil) (hsp H only seq)) fun r s' h => ?_
    match r, h with
    | .error e, h => exact h.elim
    | .ok (.ret u), ⟨v, H', os, bare, un, hok', r', (q' : v = .bl true)⟩ =>
      subst q'
      cases r'
      refine ⟨rfl, OldK.of_keep fun b o e => ?_, os, bare⟩
      rcases only b with z | ⟨ob, xs, z⟩
      · exact un.keep b o e z (by intro y; cases y) (by intro y; cases y)
      · have e1 := (hok b _ z).1
        rw [e] at e1
        cases e1
        exact (hok' b _ (un.frzs b _ _ z)).1
  have hlen := hin.length
  rcases hk : K.lookup a with _ | o
  · have hat : ∀ b (u : HO), (if b = a then some (HO.frz { cls := .type "list", data := .seq vs.toArray } (.lst (ns.map V.int))) else none) = some u → b = a ∧ u = HO.frz { cls := .type "list", data := .seq vs.toArray } (.lst (ns.map V.int)) := fun b u z => by
      by_cases hb : b = a
      · rw [if_pos hb] at z; cases z; exact ⟨hb, rfl⟩
      · rw [if_neg hb] at z; cases z
    refine main (fun b => if b = a then some (.frz { cls := .type "list", data := .seq vs.toArray } (.lst (ns.map V.int))) else none) (fun b => ?_) (.inl (.inr ⟨_, if_pos rfl⟩)) (fun b u z => ?_) fun b z => ?_
    · exact (Classical.em (b = a)).symm.imp (fun n => if_neg n) fun n => ⟨_, _, if_pos n⟩
    · obtain ⟨rfl, rfl⟩ := hat b u z
      exact ⟨obj, by rw [List.length_map]; exact hl, vs, _, hv, obj⟩
    · refine ⟨Classical.byContradiction fun n => z (if_neg n), hk⟩
  · have e := kin a o hk
    rw [obj] at e
    cases e
    exact main (fun _ => none) (fun _ => .inl rfl) (.inr ⟨_, vs.toArray, _, hk, rfl, rfl, rfl, by rw [List.size_toArray, hlen]; exact hl, by simpa using hv⟩) (fun _ _ z => by cases z) fun _ z => absurd rfl z
theorem walkG {l : PySem.W.OpenLaw} {n k : Nat} {q : Program} {loose : List Str} {XP : (Str → Option Value) → Heap → Prop} {YP : World → Heap → Prop} {d : DefRec} {K : Params → PySem.W.Frag} {sp : PySem.W.Frag → List V → Hp → VK → Prop} {x : Str}
    (hn : l.most = some n) (hn2 : n ≤ sizeLine) (hdf : d.params.defaults = []) (hr : Room k callerA) (hY : ∀ (w : World) (h : Heap), YP w h → (K w.params).In h)
    (F : ∀ (w : World) (mg : Str → Option Value) (fa : Addr) (h : Heap), (K w.params).In h → h.Ns mainGlobals mg → mg d.name = some (.ref fa) →
      ∃ fd : FuncData, (∀ (s : Shared) (u : Value), BindsTo s fd ⟨[u], []⟩ [(x, u)]) ∧ ∀ base : Heap, (K w.params).In base → base.Ns mainGlobals mg → FnG l.prog w (K w.params) mg base k fa fd [x] (sp (K w.params)))
    (hsp : ∀ (K : PySem.W.Frag) (H : Hp) (a : Addr) (ns : List Int), ns.length ≤ n → Only H → SqL K H a (ns.map V.int) → sp K [.ref a] H (fun v _ => v = .bl true)) : PySem.W.WalkO q loose XP YP l.row.toRowW d [] (fun f vs => PySem.call f vs) := by
  refine Att.attach_call hn hdf fun w s₀ s₁ mg mb fa o pm cd doc a vs ns G Y ho hd hcd hmg obj hin hlen hg => ?_
  obtain ⟨fd, hb, hF⟩ := F w mg fa _ (hY w _ Y) G.T.g hmg
  exact lawG (hY w _ Y) G.T.g G.T.b G.T.builtins G.T.nolimit hg obj hin (Nat.le_trans hlen hn2) hr hF hb fun H ho hs => hsp _ H a ns hlen ho hs
end Rf
end

section
set_option linter.all false
set_option Elab.async false
set_option maxRecDepth 100000
namespace Rf
open PySem L2 PyProof.Rows

section
variable {X : Cx} {cf : Cf} {a b c e o l tg : Expr} {x y w ea eb : Ex} {pos p apos cpos tpos : Pos} {es : List Expr} {xs : List Ex}
/-! x.index(k) -/
theorem ix_split {ds : List D} {d : D} (h : biD .ixof ds = some d) : ∃ xs k ns, (ds = [.lst xs, .int k] ∨ ds = [.tup xs, .int k]) ∧ D.intsOf xs = some ns ∧ k ∈ ns ∧ d = .int (ns.idxOf k : Nat) := by
  match ds, h with
  | [t, .int k], h =>
    have h : ((D.items t).bind fun xs => (D.intsOf xs).bind fun ns => if k ∈ ns then some (D.int (ns.idxOf k : Nat)) else none) = some d := h
    simp only [Option.bind_eq_some_iff] at h
    obtain ⟨xs, h1, ns, h2, h3⟩ := h
    split at h3
    · cases h3
      exact ⟨xs, k, ns, (items_split h1).imp (fun e => by rw [e]) (fun e => by rw [e]), h2, by assumption, rfl⟩
    · cases h3
theorem r_ixof (ho : PE X o (T cf x)) (he : PE X e (TO cf y)) (hbase : attributeBase o "index" X.env (eval o X.env) = eval o X.env := by rfl)
    (hfew : ((backTo cpos (starEach [e] X.env)).all (fun x => !x.1) && (backToKw cpos (keywordEach [] X.env)).all (fun x => x.1.isSome) && decide ([e].length + ([] : List Keyword).length + (if ([] : List Keyword).isEmpty then 0 else 1) < 30)) = true := by rfl)
    (hline : (apos.endLine == cpos.line) = true := by rfl) (hs : starEach [e] X.env = (false, eval e X.env) :: starEach [] X.env := by rfl) (hplain : (backTo cpos (starEach [] X.env)).any (·.1) = false := by rfl) (hx : nob x = true := by rfl) :
    PE X (.Call (.Attribute o "index" apos) [e] [] cpos) (T cf (.bi .ixof [x, y])) := by
  refine PE.mk' (PE.alt (pe_bm F.plainAttrs_list F.slot_list_index F.type_list_index mt_ixL ho (pa_cons he pa_nil hs) hbase hfew hline hs hplain) (pe_ixT ho (pa_cons he pa_nil hs) hbase hfew hline hs hplain)) fun σ H Q z ⟨g, tmp, ow, env, s, d, env', s', S, hev, k⟩ => ?_
  obtain ⟨ds, he1, he2, hbad⟩ := bi_split' hev
  obtain ⟨zs, kk, ns, hds, hin, hmem, rfl⟩ := ix_split he2
  obtain ⟨d1, ds1, env1, s1, q, h1, h2⟩ := evOs_nob hx he1
  rcases hds with rfl | rfl
  · cases q
    refine .inl (T.weak S h1 fun v H1 ow1 z1 S1 F1 r1 => ?_)
    obtain ⟨p, us, rfl, hp, ru⟩ := RepT.lst (.inl r1)
    refine ⟨.inl ⟨rfl, us, SqL.of hp⟩, ?_⟩
    show TOs cf [y] σ H1 _
    refine ops_run S1 h2 z1 fun vs H2 ow2 z2 S2 F2 r2 => ?_
    obtain ⟨u, rfl, rk⟩ := r2.one
    obtain rfl := rk.int
    obtain ⟨p', us', e', hp', ru'⟩ := RepT.lst (.inl (r1.frm F2))
    cases e'
    refine ⟨p, ns, kk, rfl, rfl, by rw [← ru'.ints hin]; exact SqL.of hp', hmem, fun z' => k _ H2 tmp ow2 z' S2 (F1.trans F2 fun _ h => h) (.inl ⟨rfl, .int _, fun _ => rfl⟩)⟩
  · cases q
    have hfz : s.fz = true := by simpa [badB] using hbad
    refine .inr (T.weak S h1 fun v H1 ow1 z1 S1 F1 r1 => ?_)
    have hg : g.aS.fz = true := by rw [← S.src.fz]; exact hfz
    obtain ⟨p, us, rfl, _, hp, ru⟩ := RepT.tup (.inl r1)
    rw [hg] at hp
    obtain ⟨ob, hp, hd⟩ := hp
    refine ⟨p, ob, us, rfl, hp, hd, ?_⟩
    show TOs cf [y] σ H1 _
    refine ops_run S1 h2 z1 fun vs H2 ow2 z2 S2 F2 r2 => ?_
    obtain ⟨u, rfl, rk⟩ := r2.one
    obtain rfl := rk.int
    obtain ⟨p', us', e', _, hp', ru'⟩ := RepT.tup (.inl (r1.frm F2))
    cases e'
    rw [hg] at hp'
    obtain ⟨ob', hp', _⟩ := hp'
    refine ⟨p, ns, kk, ob', rfl, rfl, by rw [← ru'.ints hin]; exact hp', hmem, fun z' => k _ H2 tmp ow2 z' S2 (F1.trans F2 fun _ h => h) (.inl ⟨rfl, .int _, fun _ => rfl⟩)⟩
/-! list(range(..)) -/
theorem lr_vals {a : Int} {n : Nat} {aS : AS} {A : Addr → Prop} {H : Hp} (c : Int) : RepL aS A H ((List.range n).map fun i => V.int (a + (i : Nat) * c)) ((List.range n).map fun (i : Nat) => D.int (a + (i : Int) * c)) := by
  induction List.range n with
  | nil => exact .nil
  | cons i r ih => exact .cons (.int _) ih
/-- a range that was made: its bounds -/
def PRgC (X : Cx) (e : Expr) (t : L2.St → Hp → (Int → Int → Int → Hp → Prop) → Prop) : Prop :=
  ∀ (pins : List (Addr × Obj)) (s : Shared) (σ : L2.St) (H : Hp) (Q : Int → Int → Int → Hp → Prop), L2.Inv X pins σ H s → t σ H Q →
    wpAny (model X.prog X.w) X.A (eval e X.env) (fun v s' => ∃ r a b c t u w H', v = .ref r ∧ IsRange s'.heap r a b c t u w ∧ L2.Inv X pins σ H' s' ∧ Q a b c H') X.xe s
theorem rg1 {ta : TA} (hg : Gl X "range") (hm : X.mg "range" = none) (ha : PA X [a] ta) (hs : starEach [a] X.env = (false, eval a X.env) :: starEach [] X.env := by rfl) : PRgC X (.Call (.Name "range" p) [a] [] pos) (fun σ H Q => ta σ H fun vs H1 => ∃ n, vs = [.int n] ∧ Q 0 n 1 H1) := by
  intro pins s σ H Q I h
  refine Call_ (ld_blt I hg hm boot_range (PyProof.Rows.callWith_type1 (thn (ha.run pos pins s σ H _ I h) fun us s1 ⟨vs, H1, I1, r, n, ev, q⟩ => ?_) hs rfl))
  subst ev
  obtain ⟨u, rfl, ru⟩ := vals1 r
  obtain ⟨t, rfl⟩ := ru
  exact call_range_1 ⟨_, 0, n, 1, _, _, _, H1, rfl, IsRange.new _ _ _ _ _ _ _, I1.kept fun b u e => Heap.get?_push_of_some _ e, q⟩
theorem rg2 {ta : TA} (hg : Gl X "range") (hm : X.mg "range" = none) (ha : PA X [a, b] ta) (hs : starEach [a, b] X.env = (false, eval a X.env) :: starEach [b] X.env := by rfl) (hpl : (backTo pos (starEach [b] X.env)).any (·.1) = false := by rfl) :
    PRgC X (.Call (.Name "range" p) [a, b] [] pos) (fun σ H Q => ta σ H fun vs H1 => ∃ i j, vs = [.int i, .int j] ∧ Q i j 1 H1) := by
  intro pins s σ H Q I h
  refine Call_ (ld_blt I hg hm boot_range (PyProof.Rows.callWith_type1 (thn (ha.run pos pins s σ H _ I h) fun us s1 ⟨vs, H1, I1, r, i, j, ev, q⟩ => ?_) hs hpl))
  subst ev
  cases r with | cons r1 r => cases r with | cons r2 r =>
  cases r
  obtain ⟨t, rfl⟩ := r1
  obtain ⟨t', rfl⟩ := r2
  exact call_range_2 ⟨_, i, j, 1, _, _, _, H1, rfl, IsRange.new _ _ _ _ _ _ _, I1.kept fun b u e => Heap.get?_push_of_some _ e, q⟩
theorem rg3 {ta : TA} (hg : Gl X "range") (hm : X.mg "range" = none) (ha : PA X [a, b, c] ta) (hs : starEach [a, b, c] X.env = (false, eval a X.env) :: starEach [b, c] X.env := by rfl) (hpl : (backTo pos (starEach [b, c] X.env)).any (·.1) = false := by rfl) :
    PRgC X (.Call (.Name "range" p) [a, b, c] [] pos) (fun σ H Q => ta σ H fun vs H1 => ∃ i j k, vs = [.int i, .int j, .int k] ∧ (k ≠ 0 ∧ k.natAbs < 1073741824) ∧ Q i j k H1) := by
  intro pins s σ H Q I h
  refine Call_ (ld_blt I hg hm boot_range (PyProof.Rows.callWith_type1 (thn (ha.run pos pins s σ H _ I h) fun us s1 ⟨vs, H1, I1, r, i, j, k, ev, ⟨c0, c1⟩, q⟩ => ?_) hs hpl))
  subst ev
  cases r with | cons r1 r => cases r with | cons r2 r => cases r with | cons r3 r =>
  cases r
  obtain ⟨t, rfl⟩ := r1
  obtain ⟨t', rfl⟩ := r2
  obtain ⟨t'', rfl⟩ := r3
  exact call_range_3 c0 ⟨_, i, j, k, _, _, _, H1, rfl, IsRange.new _ _ _ _ _ _ _, I1.kept (t' := s1.toks) fun b u e => Heap.get?_push_of_some _ e, q⟩ (.inl (PyProof.noPylong_small c1))
theorem pe_lrg {te : L2.St → Hp → (Int → Int → Int → Hp → Prop) → Prop} (hc : X.calm = true) (hg : Gl X "list") (hm : X.mg "list" = none) (he : PRgC X e te) (na : starEach [e] X.env = (false, eval e X.env) :: starEach [] X.env := by rfl) :
    PE X (.Call (.Name "list" p) [e] [] pos) (fun σ H Q => te σ H fun a b c H1 => ∃ n, RgC a b c n ∧ n ≤ 2 ^ 24 ∧ ∀ q, H1 q = none → Q (.ref q) (upd H1 q (.lst ((List.range n).map fun i => V.int (a + (i : Nat) * c))))) := by
  refine ⟨fun pins s σ H Q I h => ?_⟩
  refine Call_ (ld_blt I hg hm boot_list (PyProof.Rows.callWith_type1 (args_cons (thn (he pins s σ H _ I h) fun v s1 ⟨r, a, b, c, t, u, w, H1, ex, hr, I1, n, ⟨_, _, hsm, hsz⟩, hn, q⟩ => args_nil ?_) na) na))
  subst ex
  refine call_list_range (n := n) (I1.ok.hd hc) hr hsm hsz hn fun h' tk acc c' hk e' hi => ?_
  have hv : Vals ((List.range n).map fun i => V.int (a + (i : Nat) * c)) acc.toList := by
    have el : acc.toList.length = n := by rw [Array.length_toList]; exact hi.1
    rw [← el]
    refine vals_of_get acc.toList _ fun j u hj => ?_
    obtain ⟨t, rfl⟩ := hi.2 j u (by rw [← hj, Array.getElem?_toList])
    exact ⟨t, rfl⟩
  have hl : ((List.range n).map fun i => V.int (a + (i : Nat) * c)).length ≤ sizeLine := by rw [List.length_map, List.length_range, sizeLine_eq]; omega
  exact ⟨.ref s1.heap.objs.size, _, I1.laid (o := .lst ((List.range n).map fun i => V.int (a + (i : Nat) * c))) hk (Nat.le_refl _) ⟨hl, acc.toList, c', hv, by rw [Array.toArray_toList]; exact e'⟩, rfl, q _ (I1.hok.fresh (Nat.le_refl _))⟩
theorem lr_split {bi : Bi} {ds : List D} {d : D} {a b c : Int} (h : (rangeD a b c).map D.lst = some d) : ∃ n, RgC a b c n ∧ n ≤ 2 ^ 24 ∧ d = .lst ((List.range n).map fun (i : Nat) => D.int (a + (i : Int) * c)) := by
  rw [Option.map_eq_some_iff] at h
  obtain ⟨xs, hr, rfl⟩ := h
  obtain ⟨n, h1, h2, h3, h4, _, h6⟩ := rangeD_get hr
  exact ⟨n, rg_small h3 h2 h4, h2, by rw [h6]⟩
theorem r_lrange1 {p2 pos2 : Pos} (C : Cok X) (hg : Gl X "list") (hm : X.mg "list" = none) (hg2 : Gl X "range") (hm2 : X.mg "range" = none) (ha : PA X [a] (TOs cf [x])) (na : starEach [.Call (.Name "range" p2) [a] [] pos2] X.env = (false, eval (.Call (.Name "range" p2) [a] [] pos2) X.env) :: starEach [] X.env := by rfl)
    (hs : starEach [a] X.env = (false, eval a X.env) :: starEach [] X.env := by rfl) : PE X (.Call (.Name "list" p) [.Call (.Name "range" p2) [a] [] pos2] [] pos) (T cf (.bi .lrange1 [x])) := by
  refine PE.mk' (pe_lrg C.calm hg hm (rg1 hg2 hm2 ha hs) na) fun σ H Q z hT => bi_run hT z (r := fun vs H1 Q1 => ∃ n, vs = [.int n] ∧ ∃ m, RgC 0 n 1 m ∧ m ≤ 2 ^ 24 ∧ ∀ q, H1 q = none → Q1 (.ref q) (upd H1 q (.lst ((List.range m).map fun i => V.int (0 + (i : Nat) * 1))))) fun g tmp ow env s ds d vs H1 z1 rs h2 R => ?_
  match ds, h2 with
  | [.int n], h2 =>
    obtain ⟨m, h3, h4, rfl⟩ := lr_split (bi := .lrange1) (ds := []) h2
    obtain ⟨v, rfl, rv⟩ := rs.one
    obtain rfl := rv.int
    exact ⟨n, rfl, m, h3, h4, fun q hq z' => R.lst (lr_vals 1) hq z'⟩
theorem r_lrange2 {p2 pos2 : Pos} (C : Cok X) (hg : Gl X "list") (hm : X.mg "list" = none) (hg2 : Gl X "range") (hm2 : X.mg "range" = none) (ha : PA X [a, b] (TOs cf [x, y])) (na : starEach [.Call (.Name "range" p2) [a, b] [] pos2] X.env = (false, eval (.Call (.Name "range" p2) [a, b] [] pos2) X.env) :: starEach [] X.env := by rfl)
    (hs : starEach [a, b] X.env = (false, eval a X.env) :: starEach [b] X.env := by rfl) (hpl : (backTo pos2 (starEach [b] X.env)).any (·.1) = false := by rfl) : PE X (.Call (.Name "list" p) [.Call (.Name "range" p2) [a, b] [] pos2] [] pos) (T cf (.bi .lrange2 [x, y])) := by
  refine PE.mk' (pe_lrg C.calm hg hm (rg2 hg2 hm2 ha hs hpl) na) fun σ H Q z hT => bi_run hT z (r := fun vs H1 Q1 => ∃ i j, vs = [.int i, .int j] ∧ ∃ m, RgC i j 1 m ∧ m ≤ 2 ^ 24 ∧ ∀ q, H1 q = none → Q1 (.ref q) (upd H1 q (.lst ((List.range m).map fun t => V.int (i + (t : Nat) * 1))))) fun g tmp ow env s ds d vs H1 z1 rs h2 R => ?_
  match ds, h2 with
  | [.int i, .int j], h2 =>
    obtain ⟨m, h3, h4, rfl⟩ := lr_split (bi := .lrange1) (ds := []) h2
    obtain ⟨v, w, rfl, rv, rw_⟩ := rs.two
    obtain rfl := rv.int
    obtain rfl := rw_.int
    exact ⟨i, j, rfl, m, h3, h4, fun q hq z' => R.lst (lr_vals 1) hq z'⟩
theorem r_lrange3 {p2 pos2 : Pos} (C : Cok X) (hg : Gl X "list") (hm : X.mg "list" = none) (hg2 : Gl X "range") (hm2 : X.mg "range" = none) (ha : PA X [a, b, c] (TOs cf [x, y, w])) (na : starEach [.Call (.Name "range" p2) [a, b, c] [] pos2] X.env = (false, eval (.Call (.Name "range" p2) [a, b, c] [] pos2) X.env) :: starEach [] X.env := by rfl)
    (hs : starEach [a, b, c] X.env = (false, eval a X.env) :: starEach [b, c] X.env := by rfl) (hpl : (backTo pos2 (starEach [b, c] X.env)).any (·.1) = false := by rfl) : PE X (.Call (.Name "list" p) [.Call (.Name "range" p2) [a, b, c] [] pos2] [] pos) (T cf (.bi .lrange3 [x, y, w])) := by
  refine PE.mk' (pe_lrg C.calm hg hm (rg3 hg2 hm2 ha hs hpl) na) fun σ H Q z hT => bi_run hT z (r := fun vs H1 Q1 => ∃ i j k, vs = [.int i, .int j, .int k] ∧ (k ≠ 0 ∧ k.natAbs < 1073741824) ∧ ∃ m, RgC i j k m ∧ m ≤ 2 ^ 24 ∧ ∀ q, H1 q = none → Q1 (.ref q) (upd H1 q (.lst ((List.range m).map fun t => V.int (i + (t : Nat) * k))))) fun g tmp ow env s ds d vs H1 z1 rs h2 R => ?_
  match ds, h2 with
  | [.int i, .int j, .int k], h2 =>
    obtain ⟨m, h3, h4, rfl⟩ := lr_split (bi := .lrange1) (ds := []) h2
    obtain ⟨v, w, u, rfl, rv, rw_, ru⟩ := rs.three
    obtain rfl := rv.int
    obtain rfl := rw_.int
    obtain rfl := ru.int
    exact ⟨i, j, k, rfl, ⟨h3.1, h3.2.1⟩, m, h3, h4, fun q hq z' => R.lst (lr_vals k) hq z'⟩
end
end Rf
end

section
set_option linter.all false
set_option Elab.async false
set_option maxRecDepth 100000
namespace Rf
open PySem L2 PyProof.Rows

/-! enumerate(tuple) -/
set_option maxHeartbeats 1000000 in
theorem meets_enumT (l : Addr) (items : Array Value) (n : Nat) (dct : Option Addr) (sl : Array (Option Value)) :
    Meets (Builtin.«enumerate.__new__» ⟨[.type "enumerate", .ref l], []⟩) (fun _ R s => s.heap.get? l = some { cls := .type "tuple", dict := dct, data := .seq items n, slots := sl } ∧
      R (.ok (.ret (.ref (s.heap.push { cls := .type "tuple_iterator", data := .fields #[.ref l, .int 0 0] }).objs.size)))
        { s with heap := (s.heap.push { cls := .type "tuple_iterator", data := .fields #[.ref l, .int 0 0] }).push { cls := .type "enumerate", data := .fields #[.none, .bool false, .ref s.heap.objs.size, rawInt 0, .none, .none] } }) :=
  .of_wp fun prog w A R s h => by
    obtain ⟨hp, g, d, tk, os⟩ := s
    obtain ⟨hl, h⟩ := h
    have hsub := sub_enumerate
    have ht : Heap.IsTuple (Shared.heap ⟨hp, g, d, tk, os⟩) l items := ⟨_, hl, rfl, n, rfl⟩
    wp_walk using AutoSeq1.wpAny_loadPart' hl
    refine wpAny_stack_any fun st => wpAny_pure ?_
    split
    · rename_i c _ _ _ _ _
      cases (c == Value.type "enumerate") <;> (wp_walk using AutoSeq1.wpAny_loadPart' hl, wpAny_pyIter_tuple ht) <;> exact ⟨_, rfl, h⟩
    · wp_walk using AutoSeq1.wpAny_loadPart' hl, wpAny_pyIter_tuple ht
      exact ⟨_, rfl, h⟩
theorem call_enumT {prog : Program} {w : World} {A : Around} {E : Value → Shared → Prop} {s : Shared} {l : Addr} {items : Array Value} {Q : Value → Shared → Prop} (hT : IsTup s.heap l items)
    (h : ∀ h', IsEnum h' (s.heap.objs.size + 1) s.heap.objs.size 0 .none → h'.IsTupleIter s.heap.objs.size l 0 → (∀ b o, s.heap.get? b = some o → h'.get? b = some o) → Q (.ref (s.heap.objs.size + 1)) { s with heap := h' }) :
    wpAny (model prog w) A (call (.type "enumerate") [.ref l]) Q E s := by
  obtain ⟨⟨c, dct, dt, sl⟩, hl, hc, n, hd⟩ := hT
  obtain rfl : c = .type "tuple" := hc
  obtain rfl : dt = .seq items n := hd
  refine callType_new F.called_enumerate (by decide) (F.typeCall_enumerate_1 _) (F.newCall_enumerate_1 _) (fun obj => F.args_object_init_2 obj _) F.entry_enumerate_new (meets_enumT l items n dct sl) ⟨hl, ?_⟩
  generalize ho : ({ cls := .type "tuple_iterator", data := .fields #[.ref l, .int 0 0] } : Obj) = oi
  have hz : (s.heap.push oi).objs.size = s.heap.objs.size + 1 := Heap.size_push ..
  show _ ∧ _
  rw [hz]
  have he : IsEnum ((s.heap.push oi).push { cls := .type "enumerate", data := .fields #[.none, .bool false, .ref s.heap.objs.size, rawInt 0, .none, .none] }) (s.heap.objs.size + 1) s.heap.objs.size 0 .none := by
    have q := Heap.get?_push_size (s.heap.push oi) (o := { cls := .type "enumerate", data := .fields #[.none, .bool false, .ref s.heap.objs.size, rawInt 0, .none, .none] }) rfl
    rw [hz] at q
    exact q
  have hi : (s.heap.push oi).get? s.heap.objs.size = some oi := Heap.get?_push_size _ (by rw [← ho] <;> rfl)
  exact ⟨⟨_, he, rfl⟩, h _ he ⟨oi, Heap.get?_push_of_some _ hi, by rw [← ho], by rw [← ho] <;> rfl⟩ fun b o x => Heap.get?_push_of_some _ (Heap.get?_push_of_some _ x)⟩
def ItE (K : PySem.W.Frag) (a : Addr) : It :=
  ⟨fun i H => ∃ (xs : List V) (x : V), SqT K H a xs ∧ xs[i]? = some x, fun i H v H' => ∃ t x, v = .ref t ∧ H t = none ∧ H' = upd H t (.tup [.int (i : Nat), x]) ∧ ∀ xs, SqT K H a xs → xs[i]? = some x, fun i H => ∃ xs : List V, SqT K H a xs ∧ xs.length = i⟩
theorem turnE {P : Program} {w : World} {K : PySem.W.Frag} {elts : List Expr} {kk : Nat} {tpos : Pos} (a e it : Addr) :
    Turn P w K (.Tuple elts kk tpos) (ItE K a) [e, it] e (fun i h => (∃ old, IsEnum h e it ((i : Nat) : Int) old) ∧ h.IsTupleIter it a i ∧ e ≠ it ∧ a ≠ e ∧ a ≠ it) where
  mem := by simp
  obj := by
    rintro i h ⟨⟨old, he⟩, ⟨o, ho, hc, hd⟩, _⟩ b hb
    rcases (by simpa using hb : b = e ∨ b = it) with z | z
    · rw [z]; exact ⟨_, he, fun v q => nomatch q⟩
    · rw [z]; exact ⟨o, ho, fun v q => by rw [hd] at q; cases q⟩
  keep := fun i h h' ⟨⟨old, he⟩, hi, hne⟩ k => ⟨⟨old, k e (by simp) _ he⟩, hi.at fun o q => k it (by simp) o q, hne⟩
  item := by
    rintro X rfl rfl rfl hc i pins s σ H E I hf ⟨⟨old, he⟩, hit, hne, hae, hai⟩ ⟨xs, x, hq, hx⟩
    obtain ⟨its, rv, tp, hz⟩ := I.tuple hq
    obtain ⟨u, hu, ru⟩ := rv.get hx
    have hel : e < s.heap.objs.size := Heap.lt_size he
    have hil : it < s.heap.objs.size := by obtain ⟨_, q, _⟩ := hit; exact Heap.lt_size q
    have hlt : i < its.toArray.size := by
      rw [List.size_toArray]
      exact (List.getElem?_eq_some_iff.mp hu).1
    have hef : e ∉ [it, a] := by simp [hne, Ne.symm hae]
    refine wpAny_pyNext_enum_itemD (Draws.tuple (prog := X.prog) (w := X.w) (A := X.A.in1) (I.ok.hd hc) it a hai its.toArray) he ⟨hit, tp⟩ hlt hne hef fun y h' tk hy ho ⟨hit', _⟩ hT hsz hk => ?_
    have hyu : y = u := by
      have hy : its.toArray[i]? = some y := hy
      rw [List.getElem?_toArray, hu] at hy
      exact (Option.some.inj hy).symm
    subst hyu
    refine ⟨_, rfl, wpAny_letOwnedTupleGo_enum (s := { s with heap := h', toks := tk + 1 }) ho fun h'' he' sb => ?_⟩
    have hT2 : h''.get? s.heap.objs.size = some { cls := .type "tuple", data := .seq #[.int i tk, y] } := (sb.2 _ (Nat.ne_of_gt hel)).trans hT
    have new : ObjOk X.prog X.w (upd H s.heap.objs.size (.tup [.int (i : Nat), x])) h'' s.heap.objs.size (.tup [.int (i : Nat), x]) :=
      ⟨(by decide : 2 ≤ sizeLine), [.int i tk, y], .cons ⟨_, rfl⟩ (.cons ru .nil), _, hT2, rfl, _, rfl⟩
    have off : ∀ b, b ∉ [e, it] → b ≠ e ∧ b ≠ it := fun b hb => by simpa using hb
    have I1 := I.turnedNew (t' := tk + 1) (ch := [e, it]) (fun b ob hb q => (sb.2 b (off b hb).1).trans (hk b ob (off b hb).1 (off b hb).2 q)) hf (Nat.le_refl _) new
    refine ⟨.ref s.heap.objs.size, _, I1, rfl, ⟨_, x, rfl, I.hok.fresh (Nat.le_refl _), rfl, fun ys hy => by rw [I.tuple_inj hy hq]; exact hx⟩, ⟨⟨y, by simpa using he'⟩, hit'.at fun o q => (sb.2 it (Ne.symm hne)).trans q, hne, hae, hai⟩, fun b hb => ?_⟩
    have hb' : b < s.heap.objs.size := by
      rcases (by simpa using hb : b = e ∨ b = it) with z | z
      · rw [z]; exact hel
      · rw [z]; exact hil
    rw [upd_ne (Nat.ne_of_lt hb')]
    exact (hf b hb).1
  done := by
    rintro X rfl rfl rfl hc i pins s σ H E I hf ⟨⟨old, he⟩, hit, hne, hae, hai⟩ ⟨xs, hq, hx⟩
    obtain ⟨its, rv, tp, hz⟩ := I.tuple hq
    obtain ⟨f0, f1, f2, f3, f4, f5⟩ := hf it (by simp)
    have hl := rv.length
    have hst : (fun i (h : Heap) => h.IsTupleIter it a i ∧ h.IsTuple a its.toArray) its.toArray.size s.heap := ⟨by rw [List.size_toArray, ← hl, hx]; exact hit, tp⟩
    exact wpAny_pyNext_enum_endD (Draws.tuple (prog := X.prog) (w := X.w) (A := X.A.in1) (I.ok.hd hc) it a hai its.toArray) he hst fun h' eb => ⟨rfl, I.turned (t' := s.toks) (fun b o hb q => eb b o hb q) f0 f1 f3 f4 f5⟩
  self := fun A i s Q E ⟨⟨_, he⟩, _⟩ h => wpAny_pyIter_enum he h
section
variable {X : Cx} {cf : Cf} {a b c e o l tg iter : Expr} {x y w ea eb : Ex} {pos p apos cpos tpos : Pos} {es elts : List Expr} {xs : List Ex} {kk : Nat}
theorem pi_enumT {ta : TA} (hg : Gl X "enumerate") (hm : X.mg "enumerate" = none) (ha : PA X [e] ta) (hs : starEach [e] X.env = [(false, eval e X.env)] := by rfl) :
    PI X (.Tuple elts kk tpos) (.Call (.Name "enumerate" p) [e] [] pos) (fun σ H R => ta σ H fun vs H1 => ∃ a xs, vs = [.ref a] ∧ SqT X.K H1 a xs ∧ R (ItE X.K a) H1) := by
  refine ⟨fun pins s σ H R I h => ?_⟩
  refine Call_ (ld_blt I hg hm boot_enumerate (PyProof.Rows.callWith_type1 (thn (ha.run pos pins s σ H _ I h) fun us s1 ⟨vs, H1, I1, r1, a, xs, ex, hq, q⟩ => ?_) hs rfl))
  subst ex
  obtain ⟨u, rfl, ru⟩ := vals1 r1
  cases ru
  obtain ⟨its, rv, tp, hz⟩ := I1.tuple hq
  have hal : a < s1.heap.objs.size := by obtain ⟨o, ho, _⟩ := tp; exact Heap.lt_size ho
  refine call_enumT tp fun h' he hit hk => wpAny_pyIter_enum he ?_
  have I2 : L2.Inv X pins σ H1 { s1 with heap := h' } := I1.kept (t' := s1.toks) hk
  refine ⟨s1.heap.objs.size + 1, [s1.heap.objs.size + 1, s1.heap.objs.size], _, _, H1, rfl, I2, turnE a (s1.heap.objs.size + 1) s1.heap.objs.size, ⟨⟨.none, he⟩, hit, Nat.succ_ne_self _, Nat.ne_of_lt (Nat.lt_succ_of_lt hal), Nat.ne_of_lt hal⟩, fun b hb => ?_, q⟩
  have hle : s1.heap.objs.size ≤ b := by
    rcases (by simpa using hb : b = s1.heap.objs.size + 1 ∨ b = s1.heap.objs.size) with z | z
    · rw [z]; exact Nat.le_succ _
    · rw [z]; exact Nat.le_refl _
  exact I1.fpOk hle (I1.hok.fresh hle)
theorem walk_enum {ds zs : List D} (h : walk .enum ds = some zs) : ∃ d xs, ds = [d] ∧ (d = .lst xs ∨ d = .tup xs) ∧ zs = List.zipWith (fun (i : Nat) (x : D) => D.tup [.int (i : Int), x]) (List.range xs.length) xs := by
  match ds, h with
  | [d], h =>
    have h : ((D.items d).map fun xs => List.zipWith (fun (i : Nat) (x : D) => D.tup [.int (i : Int), x]) (List.range xs.length) xs) = some zs := h
    rw [Option.map_eq_some_iff] at h
    obtain ⟨xs, h1, rfl⟩ := h
    exact ⟨d, xs, rfl, items_split h1, rfl⟩
theorem enum_get {xs : List D} {i : Nat} {d : D} (h : (List.zipWith (fun (i : Nat) (x : D) => D.tup [.int (i : Int), x]) (List.range xs.length) xs)[i]? = some d) : ∃ x, xs[i]? = some x ∧ d = .tup [.int (i : Int), x] := by
  rw [List.getElem?_zipWith] at h
  cases hx : xs[i]? with
  | none => rw [hx] at h; cases hr : (List.range xs.length)[i]? <;> rw [hr] at h <;> cases h
  | some x =>
    have hi := (List.getElem?_eq_some_iff.mp hx).1
    rw [hx, List.getElem?_eq_getElem (by rw [List.length_range]; exact hi), List.getElem_range] at h
    cases h
    exact ⟨x, rfl, rfl⟩
theorem i_enum (hg : Gl X "enumerate") (hm : X.mg "enumerate" = none) (ha : PA X [a] (TOs cf [x])) (hs : starEach [a] X.env = [(false, eval a X.env)] := by rfl) (hx : nob x = true := by rfl) :
    PI X (.Tuple elts kk tpos) (.Call (.Name "enumerate" p) [a] [] pos) (TIof cf .enum [x]) := by
  refine PI.mk' (PI.alt (pi_enum hg hm ha hs) (pi_enumT hg hm ha hs)) fun σ H R z ⟨g, tmp, ow, env, s, ds, zs, env', s', S, he, hw, k⟩ => ?_
  obtain ⟨d, xs, rfl, hd, rfl⟩ := walk_enum hw
  have hlen : (List.zipWith (fun (i : Nat) (x : D) => D.tup [.int (i : Int), x]) (List.range xs.length) xs).length = xs.length := by simp
  have hnb : ∀ e ∈ [x], nob e = true := fun e h => by simp at h; rw [h]; exact hx
  rcases hd with rfl | rfl
  · refine .inl (ops_runR hnb S he z fun vs H1 ow1 z1 S1 F1 r1 => ?_)
    cases r1 with | cons ra r1 =>
    cases r1
    cases ra with | @lst p us _ na hp ra =>
    have hul := ra.length
    refine ⟨p, us, rfl, SqL.of hp, fun _ => k _ H1 ow1 z1 S1 F1 ⟨by rw [hlen, ← hul]; exact z1 p us (.inl hp), fun A' H' i f hi => ?_, fun A' H' i f hi => ?_, fun A' H' i d v H'' f hd hy => ?_⟩⟩
    · exact ⟨us, us[i]'(by omega), SqL.of (f.keep _ _ na hp), List.getElem?_eq_getElem _⟩
    · exact ⟨us, SqL.of (f.keep _ _ na hp), by omega⟩
    · obtain ⟨dx, e1, rfl⟩ := enum_get hd
      obtain ⟨t, u, rfl, ht, rfl, h1⟩ := hy
      obtain ⟨u', hu, ru⟩ := ra.get e1
      have q1 := h1 us (SqL.of (f.keep _ _ na hp))
      rw [hu] at q1
      cases q1
      exact .inr ⟨rfl, t, _, _, rfl, ht, rfl, rfl, .cons (.int _) (.cons (ru.frm f) .nil)⟩
  · refine .inr (ops_runR hnb S he z fun vs H1 ow1 z1 S1 F1 r1 => ?_)
    cases r1 with | cons ra r1 =>
    cases r1
    cases ra with | @tup p us _ na hp ra =>
    have hul := ra.length
    refine ⟨p, us, rfl, hp.sq, fun _ => k _ H1 ow1 z1 S1 F1 ⟨by rw [hlen, ← hul]; exact z1 p us (.inr hp.rd), fun A' H' i f hi => ?_, fun A' H' i f hi => ?_, fun A' H' i d v H'' f hd hy => ?_⟩⟩
    · exact ⟨us, us[i]'(by omega), (hp.keep fun o e => f.keep _ _ na e).sq, List.getElem?_eq_getElem _⟩
    · exact ⟨us, (hp.keep fun o e => f.keep _ _ na e).sq, by omega⟩
    · obtain ⟨dx, e1, rfl⟩ := enum_get hd
      obtain ⟨t, u, rfl, ht, rfl, h1⟩ := hy
      obtain ⟨u', hu, ru⟩ := ra.get e1
      have q1 := h1 us (hp.keep fun o e => f.keep _ _ na e).sq
      rw [hu] at q1
      cases q1
      exact .inr ⟨rfl, t, _, _, rfl, ht, rfl, rfl, .cons (.int _) (.cons (ru.frm f) .nil)⟩
end
end Rf
end

section
set_option linter.all false
set_option Elab.async false
set_option maxRecDepth 100000
namespace Rf
open PySem L2

section
variable {X : Cx} {cf : Cf} {a b c e o l : Expr} {x y w ea eb : Ex} {pos p : Pos} {es : List Expr} {xs : List Ex}
/-! xs[::-1] -/
theorem rev_split {ds : List D} {d : D} (h : biD .rev ds = some d) : ∃ xs, ds = [.lst xs] ∧ d = .lst xs.reverse := by
  match ds, h with
  | [t], h =>
    have h : revD t = some d := h
    cases t <;> simp only [revD, reduceCtorEq, Option.some.injEq] at h
    exact ⟨_, rfl, h.symm⟩
theorem r_rev {k : Nat} {p1 p2 p3 : Pos} (he : PE X e (TO cf x)) : PE X (.Subscript e (.Slice none none (some (.UnaryOp .USub (.Constant (.int 1) k p1) p2)) p3) pos) (T cf (.bi .rev [x])) := by
  refine PE.mk' (pe_revL he) fun σ H Q z hT => ?_
  refine to_one (bi_run hT z (r := fun vs H1 Q1 => ∃ a us, vs.getD 0 .non = .ref a ∧ SqL X.K H1 a us ∧ ∀ p, H1 p = none → Q1 (.ref p) (upd H1 p (.lst us.reverse))) fun g tmp ow env s ds d vs H1 z1 rs h2 R => ?_)
  obtain ⟨xs, rfl, rfl⟩ := rev_split h2
  obtain ⟨v, rfl, rv⟩ := rs.one
  obtain ⟨p, us, rfl, hp, ru⟩ := rv.lst
  exact ⟨p, us, rfl, SqL.of hp, fun q hq z' => R.lst ru.reverse hq z'⟩
/-! dict(list of pairs) -/
def rDictP (K : PySem.W.Frag) : List V → Hp → VK → Prop := fun xs H Q => ∃ (a : Addr) (ps : List Addr) (kvs : List (Key × V)), xs = [.ref a] ∧ SqL K H a (ps.map V.ref) ∧ Paired (fun p kv => SqT K H p [kV kv.1, kv.2]) ps kvs ∧ ∀ p, H p = none → Q (.ref p) (upd H p (.dK (mergeK [] kvs)))
theorem pairs_rep {K : PySem.W.Frag} {aS : AS} {A : Addr → Prop} {H : Hp} : ∀ {us : List V} {xs : List D} {ps : List (D × D)}, RepL aS A H us xs → pairsOf xs = some ps → (ps.all fun p => keyOk false p.1) = true →
    ∃ (as : List Addr) (kvs : List (Key × V)), us = as.map V.ref ∧ Paired (fun p kv => SqT K H p [kV kv.1, kv.2]) as kvs ∧ Paired (fun (kv : Key × V) (p : D × D) => p.1 = kD kv.1 ∧ Rep aS A H kv.2 p.2) kvs ps
  | _, _, ps, .nil, h, _ => by
    cases h
    exact ⟨[], [], rfl, .nil, .nil⟩
  | _, d :: ds, ps, .cons r rr, h, hk => by
    match d, h with
    | .tup [a, b], h =>
      have h : (pairsOf ds).map ((a, b) :: ·) = some ps := h
      rw [Option.map_eq_some_iff] at h
      obtain ⟨ps', h1, rfl⟩ := h
      rw [List.all_cons, Bool.and_eq_true] at hk
      obtain ⟨as, kvs, e1, e2, e3⟩ := pairs_rep rr h1 hk.2
      have hk1 : ∃ n, a = .int n := by
        have := hk.1
        cases a <;> simp [keyOk] at this
        exact ⟨_, rfl⟩
      obtain ⟨n, rfl⟩ := hk1
      cases r with | @tup p us _ na hp ru =>
      cases ru with | cons ra ru => cases ru with | cons rb ru =>
      cases ru
      cases ra
      exact ⟨p :: as, (.inl n, _) :: kvs, by rw [e1]; rfl, .cons hp.sq e2, .cons ⟨rfl, rb⟩ e3⟩
theorem merge_rep {aS : AS} {A : Addr → Prop} {H : Hp} : ∀ {kvs : List (Key × V)} {ps : List (D × D)} {acc : List (Key × V)} {dacc : List (D × D)}, Paired (fun (kv : Key × V) (p : D × D) => p.1 = kD kv.1 ∧ Rep aS A H kv.2 p.2) kvs ps → KOk kD acc dacc → RepL aS A H (acc.map (·.2)) (dacc.map (·.2)) →
    KOk kD (mergeK acc kvs) (ps.foldl (fun kvs p => put p.1 p.2 kvs) dacc) ∧ RepL aS A H ((mergeK acc kvs).map (·.2)) ((ps.foldl (fun kvs p => put p.1 p.2 kvs) dacc).map (·.2))
  | [], [], acc, dacc, .nil, h1, h2 => ⟨h1, h2⟩
  | kv :: kvs, p :: ps, acc, dacc, .cons ⟨e, r⟩ t, h1, h2 => by
    obtain ⟨k1, k2⟩ := put_ok kD (fun _ _ => kD_inj) (k := kv.1) (v := kv.2) (d := p.2) h1 h2 r
    rw [← e] at k1 k2
    exact merge_rep (kvs := kvs) (ps := ps) (acc := putK acc kv.1 kv.2) (dacc := put p.1 p.2 dacc) t k1 k2
theorem dict_sound {K : PySem.W.Frag} : CallSound (.dict false) (rDictP K) := by
  intro f g tmp ow σ env s ds d vs H Q hf z rs h R
  have hf : f = true := hf
  subst hf
  match ds, h with
  | [.lst xs], h =>
    have h : ((pairsOf xs).bind fun ps => if ps.all (fun p => keyOk false p.1) then some (D.dct false (ps.foldl (fun kvs p => put p.1 p.2 kvs) [])) else none) = some d := h
    rw [Option.bind_eq_some_iff] at h
    obtain ⟨ps, h1, h2⟩ := h
    split at h2
    · rename_i hk
      cases h2
      obtain ⟨v, rfl, rv⟩ := rs.one
      obtain ⟨p, us, rfl, hp, ru⟩ := rv.lst
      obtain ⟨as, kvs, rfl, e2, e3⟩ := pairs_rep (K := K) ru h1 hk
      obtain ⟨m1, m2⟩ := merge_rep (acc := []) (dacc := []) e3 ⟨rfl, List.nodup_nil⟩ .nil
      exact ⟨p, as, kvs, rfl, SqL.of hp, e2, fun q hq z' => R.dctK m1 m2 hq z'⟩
    · cases h2
/-! a op b op' c -/
theorem r_cmp2 {op op' : Cop} {o1 o2 : CmpOp} {r r' : R2} (ho : OpR X (compareOp o1) r) (ho' : OpR X (compareOp o2) r') (s1 : OpSound (.cmp op) r) (s2 : OpSound (.cmp op') r') (ha : PE X a (TO cf x)) (hb : PE X b (TO cf y)) (hc : PE X c (T cf w)) (hm : lastMarks [o1, o2] [b, c] = false := by with_unfolding_all rfl) :
    True := trivial
/-! the first of the least -/
theorem toPy_inj2 : True := trivial
end
end Rf
end

section
set_option linter.all false
set_option Elab.async false
set_option maxRecDepth 100000
namespace Rf
open PySem L2 PyProof.Rows

/-! short forms for the printed derivations -/
section
variable {X : Cx} {cf : Cf} {ff : Bool} {fuel : Nat} {a b c e o l tg : Expr} {x y w ea eb : Ex} {pos p : Pos} {es : List Expr} {xs : List Ex} {j : Option Str}
theorem k_int {n : Int} {j pos} : PE X (.Constant (.int n) j pos) (T cf (.int n)) := r_const pe_int (fun _ _ => by simp only [ev]) (fun _ _ _ => .int _) rfl
theorem k_bl {b : Bool} {j pos} : PE X (.Constant (.bool b) j pos) (T cf (.bl b)) := r_const pe_bl (fun _ _ => by simp only [ev]) (fun _ _ _ => .bl _) rfl
theorem k_non {j pos} : PE X (.Constant .none j pos) (T cf .non) := r_const pe_non (fun _ _ => by simp only [ev]) (fun _ _ _ => .non) rfl
theorem k_str {s : Str} {cs : List Nat} {j pos} (h : s = codes cs := by rfl) : PE X (.Constant (.str s) j pos) (T cf (.str cs)) := by
  subst h
  exact r_const pe_str (fun _ _ => by simp only [ev]) (fun _ _ _ => .str _) rfl
/-- targets -/
theorem gn (i : Nat) {x : Str} {pos : Pos} (C : Cok X) (hi : X.N[i]? = some x := by rfl) (hx : Loc X.env.scope x := by first | exact Or.inl rfl | exact Or.inr rfl) (hf : X.fn x = true ∨ X.env.scope.names.lookup x = some .local := by first | exact Or.inl rfl | exact Or.inr rfl) : PG X (.Name x pos) (TGt X.K (.nm i)) := pg_name C.nd hi hx hf
/-- stores -/
theorem sa {i : Nat} {y : Str} {pos' : Pos} (C : Cok X) (he : PE X e (T cf x)) (hi : X.N[i]? = some y := by rfl) (hx : Loc X.env.scope y := by first | exact Or.inl rfl | exact Or.inr rfl) (hs : swapsWith e (some (.Name y pos')) pos.line X.env = pure false := by rfl) (hf : X.fn y = true ∨ X.env.scope.names.lookup y = some .local := by first | exact Or.inl rfl | exact Or.inr rfl) : PS X (.Assign [.Name y pos'] e pos) (TSt cf ff fuel (.asg i x)) := s_asg C.nd hi hx he hs hf
theorem so {i : Nat} {y : Str} {pos' : Pos} (C : Cok X) (he : PE X e (T cf x)) (hi : X.N[i]? = some y := by rfl) (hx : Loc X.env.scope y := by first | exact Or.inl rfl | exact Or.inr rfl) (hs : swapsWith e (some (.Name y pos')) pos.line X.env = pure false := by rfl) (hf : X.fn y = true ∨ X.env.scope.names.lookup y = some .local := by first | exact Or.inl rfl | exact Or.inr rfl) : PS X (.Assign [.Name y pos'] e pos) (TSt cf ff fuel (.asgO i x)) := s_asgO C.nd hi hx he hs hf
/-- subscripts -/
theorem ix (C : Cok X) (ha : PE X a (TO cf ea)) (hb : PE X b (TO cf eb)) (hs : PlainIx b := by intro _ _; rfl) (hs2 : NoSl b := by intro _ _; rfl) : PE X (.Subscript a b pos) (T cf (.bi .idx [ea, eb])) := r_idx C ha hb hs hs2
/-- built-in functions -/
theorem q_len {a : Expr} (hm : X.mg "len" = none) (ha : PA X [a] (TOs cf [x])) (hg : Gl X "len" := by rfl) (he : starEach [a] X.env = (false, eval a X.env) :: starEach [] X.env := by rfl) : PE X (.Call (.Name "len" p) [a] [] pos) (T cf (.bi .len [x])) := r_call (pe_callB call_len hg hm boot_len ha (he := he)) len_sound
theorem q_abs {a : Expr} (hm : X.mg "abs" = none) (ha : PA X [a] (TOs cf [x])) (hg : Gl X "abs" := by rfl) (he : starEach [a] X.env = (false, eval a X.env) :: starEach [] X.env := by rfl) : PE X (.Call (.Name "abs" p) [a] [] pos) (T cf (.bi .abs [x])) := r_call (pe_callB call_abs hg hm boot_abs ha (he := he)) abs_sound
theorem q_int {a : Expr} (hm : X.mg "int" = none) (ha : PA X [a] (TOs cf [x])) (hg : Gl X "int" := by rfl) (he : starEach [a] X.env = (false, eval a X.env) :: starEach [] X.env := by rfl) : PE X (.Call (.Name "int" p) [a] [] pos) (T cf (.bi .toint [x])) := r_call (pe_callTy call_int1 hg hm PyProof.Rows.boot_int ha (he := he)) toint_sound
theorem q_max2 {a b : Expr} (C : Cok X) (hm : X.mg "max" = none) (ha : PA X [a, b] (TOs cf [x, y])) (hg : Gl X "max" := by rfl) (he : starEach [a, b] X.env = (false, eval a X.env) :: starEach [b] X.env := by rfl) (hpl : (backTo pos (starEach [b] X.env)).any (·.1) = false := by rfl) : PE X (.Call (.Name "max" p) [a, b] [] pos) (T cf (.bi .max2 [x, y])) := r_call (pe_callB (call_max2 C.calm) hg hm boot_max ha (he := he) (hpl := hpl)) max2_sound
theorem q_min2 {a b : Expr} (C : Cok X) (hm : X.mg "min" = none) (ha : PA X [a, b] (TOs cf [x, y])) (hg : Gl X "min" := by rfl) (he : starEach [a, b] X.env = (false, eval a X.env) :: starEach [b] X.env := by rfl) (hpl : (backTo pos (starEach [b] X.env)).any (·.1) = false := by rfl) : PE X (.Call (.Name "min" p) [a, b] [] pos) (T cf (.bi .min2 [x, y])) := r_call (pe_callB (call_min2 C.calm) hg hm boot_min ha (he := he) (hpl := hpl)) min2_sound
theorem q_max1 {a : Expr} (C : Cok X) (hm : X.mg "max" = none) (ha : PA X [a] (TOs cf [x])) (hg : Gl X "max" := by rfl) (he : starEach [a] X.env = (false, eval a X.env) :: starEach [] X.env := by rfl) : PE X (.Call (.Name "max" p) [a] [] pos) (T cf (.bi .max1 [x])) := r_call (pe_callB (cr_max C.calm) hg hm boot_max ha (he := he)) (max_sound (K := X.K))
theorem q_min1 {a : Expr} (C : Cok X) (hm : X.mg "min" = none) (ha : PA X [a] (TOs cf [x])) (hg : Gl X "min" := by rfl) (he : starEach [a] X.env = (false, eval a X.env) :: starEach [] X.env := by rfl) : PE X (.Call (.Name "min" p) [a] [] pos) (T cf (.bi .min1 [x])) := r_call (pe_callB (cr_min C.calm) hg hm boot_min ha (he := he)) (min_sound (K := X.K))
theorem q_sum {a : Expr} (C : Cok X) (hm : X.mg "sum" = none) (ha : PA X [a] (TOs cf [x])) (hg : Gl X "sum" := by rfl) (he : starEach [a] X.env = (false, eval a X.env) :: starEach [] X.env := by rfl) : PE X (.Call (.Name "sum" p) [a] [] pos) (T cf (.bi .sum [x])) := r_call (pe_callB (cr_sum C.calm) hg hm boot_sum ha (he := he)) (sum_sound (K := X.K))
theorem q_any {a : Expr} (C : Cok X) (hm : X.mg "any" = none) (ha : PA X [a] (TOs cf [x])) (hg : Gl X "any" := by rfl) (he : starEach [a] X.env = (false, eval a X.env) :: starEach [] X.env := by rfl) : PE X (.Call (.Name "any" p) [a] [] pos) (T cf (.bi .any [x])) := r_call (pe_callB (cr_any C.calm) hg hm boot_any ha (he := he)) (any_sound (K := X.K))
theorem q_all {a : Expr} (C : Cok X) (hm : X.mg "all" = none) (ha : PA X [a] (TOs cf [x])) (hg : Gl X "all" := by rfl) (he : starEach [a] X.env = (false, eval a X.env) :: starEach [] X.env := by rfl) : PE X (.Call (.Name "all" p) [a] [] pos) (T cf (.bi .all [x])) := r_call (pe_callB (cr_all C.calm) hg hm boot_all ha (he := he)) (all_sound (K := X.K))
theorem q_tuple {a : Expr} (hm : X.mg "tuple" = none) (ha : PA X [a] (TOs cf [x])) (hg : Gl X "tuple" := by rfl) (he : starEach [a] X.env = (false, eval a X.env) :: starEach [] X.env := by rfl) : PE X (.Call (.Name "tuple" p) [a] [] pos) (T cf (.bi .totup [x])) := r_call (pe_callTy call_tupleF hg hm PyProof.Rows.boot_tuple ha (he := he)) (totup_sound (K := X.K))
theorem q_list {a : Expr} (hm : X.mg "list" = none) (ha : PA X [a] (TOs cf [x])) (hg : Gl X "list" := by rfl) (he : starEach [a] X.env = (false, eval a X.env) :: starEach [] X.env := by rfl) : PE X (.Call (.Name "list" p) [a] [] pos) (T cf (.bi .tolst [x])) := r_call (pe_callTy call_list_of hg hm PyProof.Rows.boot_list ha (he := he)) (tolst_sound (K := X.K))
theorem q_sorted {a : Expr} (C : Cok X) (hm : X.mg "sorted" = none) (ha : PA X [a] (TOs cf [x])) (hg : Gl X "sorted" := by rfl) (he : starEach [a] X.env = (false, eval a X.env) :: starEach [] X.env := by rfl) : PE X (.Call (.Name "sorted" p) [a] [] pos) (T cf (.bi .sorted [x])) := r_call (pe_callB (cr_sortA C) hg hm boot_sorted ha (he := he)) (sort_sound (K := X.K))
theorem q_repr {a : Expr} (C : Cok X) (hm : X.mg "repr" = none) (ha : PA X [a] (TOs cf [x])) (hg : Gl X "repr" := by rfl) (he : starEach [a] X.env = (false, eval a X.env) :: starEach [] X.env := by rfl) : PE X (.Call (.Name "repr" p) [a] [] pos) (T cf (.bi .repr [x])) := r_call (pe_callB (cr_repr C) hg hm boot_repr ha (he := he)) (repr_sound (K := X.K))
theorem q_dict {a : Expr} (C : Cok X) (hm : X.mg "dict" = none) (ha : PA X [a] (TOs cf [x])) (hg : Gl X "dict" := by rfl) (he : starEach [a] X.env = (false, eval a X.env) :: starEach [] X.env := by rfl) : PE X (.Call (.Name "dict" p) [a] [] pos) (T cf (.bi (.dict false) [x])) := r_call (pe_callTy (call_dictP C.calm) hg hm PyProof.Rows.boot_dict ha (he := he)) (dict_sound (K := X.K))

/-! min of a list of alike data -/
def rMinT (K : PySem.W.Frag) : List V → Hp → VK → Prop := fun vs H Q => ∃ (a : Addr) (us : List V) (d : D) (ds : List D), vs = [.ref a] ∧ SqL K H a us ∧ us.length = ds.length + 1 ∧ (∃ ps, toPys (d :: ds) = some ps ∧ DpAll K H us ps) ∧ PySem.W.AlikeAll ((d :: ds).map encD) ∧ PyData.depthAll ((d :: ds).map encD) ≤ 60 ∧
  ∀ (i : Nat) (v : V) (x : D), us[i]? = some v → (d :: ds)[i]? = some x → encD x = PySem.W.minD (encD d) (ds.map encD) → Q v H
theorem cr_minT (C : Cok X) : CallR X (.builtin "min") (rMinT X.K) := by
  intro pins s σ H vs us Q I r h
  obtain ⟨a, xs, d, ds, rfl, hs, hlen, ⟨ps, hps, hdp⟩, hal, hdep, q⟩ := h
  obtain ⟨its, rv, hl, hz⟩ := I.list hs
  obtain ⟨u, rfl, ru⟩ := vals1 r
  cases ru
  obtain ⟨as, hrd⟩ := Dp.readsAll I ps xs its hdp rv
  have em := toPys_map hps
  have hu := C.units
  rw [em] at hrd
  have hrd' : ReadsAll s.heap (its.toArray).toList (encD d :: ds.map encD) as := by simpa using hrd
  refine PySem.W.min_list_data (I.ok.hd C.calm) hl.isList hrd' (by simpa using hal) (by have := hdep; rw [List.map_cons] at this; omega) fun i v h' tk bs hv hm hk => ?_
  obtain ⟨bs', hr', hi, _⟩ := PySem.W.readsAll_at hrd' i v (by simpa using hv)
  obtain ⟨e1, _⟩ := PyProof.Rows.reads_det (fun b o e _ => hk b o e) hr' hm
  have hi' : i < xs.length := by rw [hlen]; simpa using hi
  obtain ⟨w, hw, rw_⟩ := rv.get (List.getElem?_eq_getElem hi')
  have hvw : w = v := by
    have hv : its.toArray[i]? = some v := hv
    rw [List.getElem?_toArray, hw] at hv
    exact Option.some.inj hv
  subst hvw
  have hi2 : i < (d :: ds).length := by rw [List.length_cons, ← hlen]; exact hi'
  have e3 : ∀ (L : List D) (hL : i < L.length), (L.map encD).getD i .none = encD L[i] := fun L hL => by
    rw [List.getD_eq_getElem?_getD, List.getElem?_map, List.getElem?_eq_getElem hL]
    rfl
  have e2 := e3 (d :: ds) hi2
  rw [List.map_cons] at e2
  exact ⟨xs[i], H, I.kept (t' := tk) hk, rw_, q i _ _ (List.getElem?_eq_getElem hi') (List.getElem?_eq_getElem hi2) (by rw [← e2]; exact e1.symm)⟩
theorem fold_enc {L : List D} (hal : ∀ a ∈ L, ∀ b ∈ L, alk a b = true) (hpy : ∀ a ∈ L, ∃ p, toPy a = some p) : ∀ {ds : List D} {d : D}, d ∈ L → (∀ x ∈ ds, x ∈ L) →
    encD (ds.foldl (fun a y => if ltD y a then y else a) d) = (ds.map encD).foldl (fun a y => if PySem.W.dataLt y a then y else a) (encD d) ∧ ds.foldl (fun a y => if ltD y a then y else a) d ∈ L
  | [], d, hd, _ => ⟨rfl, hd⟩
  | y :: ds, d, hd, hds => by
    have hy := hds y List.mem_cons_self
    obtain ⟨p, e1⟩ := hpy y hy
    obtain ⟨q, e2⟩ := hpy d hd
    have e : ltD y d = PySem.W.dataLt (encD y) (encD d) := by rw [encD_of e1, encD_of e2]; exact (ltD_py y d p q (hal y hy d hd) e1 e2).1
    simp only [List.foldl_cons, List.map_cons]
    rw [← e]
    cases ltD y d with
    | true => rw [if_pos rfl, if_pos rfl]; exact fold_enc hal hpy hy fun x hx => hds x (List.mem_cons_of_mem _ hx)
    | false => rw [if_neg Bool.false_ne_true, if_neg Bool.false_ne_true]; exact fold_enc hal hpy hd fun x hx => hds x (List.mem_cons_of_mem _ hx)
theorem minT_sound {K : PySem.W.Frag} : CallSound .mint (rMinT K) := by
  intro f g tmp ow σ env s ds d vs H Q hf z rs h R
  match ds, h with
  | [.lst (x :: xs)], h =>
    have h : (if (x :: xs).all (fun a => (x :: xs).all fun b => alk a b) && D.shpL (x :: xs) 60 then some (xs.foldl (fun a y => if ltD y a then y else a) x) else none) = some d := h
    split at h
    · rename_i c
      rw [Bool.and_eq_true, List.all_eq_true] at c
      obtain ⟨hal, hsh⟩ := c
      have hal : ∀ a ∈ x :: xs, ∀ b ∈ x :: xs, alk a b = true := fun a ha b hb => List.all_eq_true.mp (hal a ha) b hb
      cases h
      obtain ⟨v, rfl, rv⟩ := rs.one
      obtain ⟨p, us, rfl, hp, r⟩ := rv.lst
      obtain ⟨ps, e, _, hd⟩ := shpL_py (x :: xs) 60 hsh
      have em := toPys_map e
      obtain ⟨f1, f2⟩ := fold_enc hal (toPys_each e) (List.mem_cons_self (a := x) (l := xs)) fun y hy => List.mem_cons_of_mem _ hy
      have irr : ∀ q : PyData, PySem.W.dataLt q q = false := fun q => by
        have t := leB_total (V.non, .non) (V.non, .non)
        cases hh : PySem.W.dataLt q q with
        | false => rfl
        | true =>
          have := (PySem.W.sortLe_total (PyProof.Rows.listOrd PyProof.Rows.itemOrd) false (fun b : PyData => PySem.W.keyToks b)).total q q
          rcases this with w | w
          · have w : (!PySem.W.dataLt q q) = true := w
            rw [hh] at w; cases w
          · have w : (!PySem.W.dataLt q q) = true := w
            rw [hh] at w; cases w
      refine ⟨p, us, x, xs, rfl, SqL.of hp, by rw [r.length]; rfl, ⟨ps, e, repL_dp r e⟩, ?_, by rw [← em]; exact hd, fun i u y hu hy he z' => ?_⟩
      · refine ⟨fun q hq q' hq' => ?_, fun q hq => ?_⟩
        · obtain ⟨a, ha, rfl⟩ := List.mem_map.mp hq
          obtain ⟨b, hb, rfl⟩ := List.mem_map.mp hq'
          obtain ⟨a1, e1⟩ := toPys_each e a ha
          obtain ⟨a2, e2⟩ := toPys_each e b hb
          rw [encD_of e1, encD_of e2]
          exact (ltD_py a b a1 a2 (hal a ha b hb) e1 e2).2
        · obtain ⟨a, ha, rfl⟩ := List.mem_map.mp hq
          have := hal a ha a ha
          cases a <;> simp [alk] at this <;> simp [encD, toPy]
          all_goals try (rename_i l; obtain ⟨q, e1⟩ := toPys_each e _ ha; simp only [toPy, Option.map_eq_some_iff] at e1; obtain ⟨w, e1, _⟩ := e1; rw [e1]; simp)
      · have hym : y ∈ x :: xs := List.mem_of_getElem? hy
        obtain ⟨a1, e1⟩ := toPys_each e y hym
        obtain ⟨a2, e2⟩ := toPys_each e _ f2
        have eq : a1 = a2 := by rw [← encD_of e1, ← encD_of e2, f1, he]; rfl
        subst eq
        have l1 := (ltD_py y _ a1 a1 (hal y hym _ f2) e1 e2).1
        have l2 := (ltD_py _ y a1 a1 (hal _ f2 y hym) e2 e1).1
        rw [irr] at l1 l2
        have := lt_anti y _ (hal y hym _ f2) (hal _ f2 y hym) l1 l2
        obtain ⟨y', hy', ry⟩ := r.get' hu
        rw [hy] at hy'
        cases hy'
        rw [this] at ry
        exact R.val ry (fun hh => by rw [hf] at hh; cases hh) z'
    · cases h
theorem q_mint {a : Expr} (C : Cok X) (hm : X.mg "min" = none) (ha : PA X [a] (TOs cf [x])) (hg : Gl X "min" := by rfl) (he : starEach [a] X.env = (false, eval a X.env) :: starEach [] X.env := by rfl) : PE X (.Call (.Name "min" p) [a] [] pos) (T cf (.bi .mint [x])) := r_call (pe_callB (cr_minT C) hg hm boot_min ha (he := he)) (minT_sound (K := X.K))
end
end Rf
end

section
set_option linter.all false
set_option Elab.async false
set_option maxRecDepth 100000
namespace Rf
open PySem L2

/-! the drawing source -/
def keyS : Nat → Str
  | 0 => "left"
  | 1 => "mixed"
  | _ => "turn"
def srcL (s : Sr) (aC : Addr) : List (Key × V) := [(.inr "cells", .ref aC), (.inr "left", .int s.left), (.inr "mixed", .int s.mixed), (.inr "turn", .int s.turn)]
theorem val_src (s : Sr) (aC : Addr) (k : Nat) : valV (srcL s aC) (.inr (keyS k)) = some (.int (s.fld k)) := by
  match k with
  | 0 => rfl
  | 1 => rfl
  | _ + 2 => rfl
theorem put_src (s : Sr) (aC : Addr) (k : Nat) (n : Int) : putK (srcL s aC) (.inr (keyS k)) (.int n) = srcL (s.putF n k) aC := by
  match k with
  | 0 => rfl
  | 1 => rfl
  | _ + 2 => rfl
theorem putF_cells (s : Sr) (n : Int) (k : Nat) : (s.putF n k).cells = s.cells ∧ (s.putF n k).fz = s.fz := by
  match k with
  | 0 => exact ⟨rfl, rfl⟩
  | 1 => exact ⟨rfl, rfl⟩
  | _ + 2 => exact ⟨rfl, rfl⟩
section
variable {g : Gp} {tmp : List Addr} {ow : Ow} {σ : St} {H : Hp} {env : Env} {s : Sr} {i : Nat}
theorem Stt.srcAt (S : Stt g tmp ow σ H env s) (h : rdV env i = some .src) : σ[i]? = some (some (.ref g.aS.a)) := by
  have h1 : env[i]? = some (some (false, .src)) := by
    unfold rdV at h
    split at h
    · rename_i e; cases h; exact e
    · cases h
  obtain ⟨v, e1, q⟩ := S.slot i _ _ h1
  rcases q with ⟨a, _, h3, _⟩ | ⟨_, _, r⟩
  · cases h3
  · cases r; exact e1
theorem Stt.aCS (S : Stt g tmp ow σ H env s) : g.aC ≠ g.aS.a := fun e => by
  have h1 := S.src.dic
  have h2 := S.src.cel
  rw [e, h1] at h2
  cases h2
/-- one of the source's two objects changes -/
theorem Stt.srcUpd (S : Stt g tmp ow σ H env s) {s' : Sr} {a : Addr} {o : HO} (ha : a = g.aS.a ∨ a = g.aC) (src : SrcR g s' (upd H a o)) : Stt g tmp ow σ (upd H a o) env s' ∧ Frm (Av g tmp ow) (Av g tmp ow) tmp H (upd H a o) := by
  have hA : Av g tmp ow a := ha.elim (fun e => .inr (.inl e)) fun e => .inr (.inr (.inl e))
  have off : ∀ b, Nw g b → b ≠ a := fun b ⟨_, _, n1, n2⟩ e => ha.elim (fun h => n1 (e.trans h)) fun h => n2 (e.trans h)
  have F : Frm (Av g tmp ow) (Av g tmp ow) tmp H (upd H a o) := by
    refine ⟨fun b u hn q => ?_, fun _ z => .inl z, fun b hb => upd_ne (off b (S.tmN b hb))⟩
    have hne : b ≠ a := fun e => hn (by rw [e]; exact hA)
    rw [upd_ne hne]; exact q
  refine ⟨⟨S.len, fun j f d e => ?_, S.inj, S.owN, S.tmN, S.tmD, fun b z q => ?_, fun b u q h1 h2 => ?_, src⟩, F⟩
  · obtain ⟨w, e1, z⟩ := S.slot j f d e
    refine ⟨w, e1, ?_⟩
    rcases z with ⟨b, h1, h2, h3, t⟩ | ⟨h1, h2, r⟩
    · exact .inl ⟨b, h1, h2, h3, t.frm F (upd_ne (off b (S.owN j b h1).2))⟩
    · exact .inr ⟨h1, h2, r.frm F⟩
  · by_cases e : b = a
    · rw [e, upd_same] at q; cases q
    · rw [upd_ne e] at q; exact S.alive b z q
  · have hne : b ≠ a := fun e => ha.elim (fun h => h1 (e.trans h)) fun h => h2 (e.trans h)
    rw [upd_ne hne]; exact S.same b u q h1 h2
end
section
variable {X : Cx} {cf : Cf} {ff : Bool} {fuel : Nat} {a b c e o : Expr} {x : Ex} {ms : List Sm} {rest : List Stmt} {pos p tpos spos : Pos} {i j k : Nat} {kj : Nat}
theorem r_sget {t : Str} (C : Cok X) (ho : PE X o (tVar i)) (ht : t = keyS k := by rfl) : PE X (.Subscript o (.Constant (.str t) kj p) pos) (T cf (.sget i k)) := by
  subst ht
  refine PE.mk' (pe_dget (by have := C.units; omega) ho pe_str (fun _ _ => rfl)) fun σ H Q z ⟨g, tmp, ow, env, s, d, env', s', S, he, kt⟩ => ?_
  simp only [ev] at he
  cases h : rdV env i with
  | none => rw [h] at he; cases he
  | some d0 =>
    rw [h] at he
    cases d0 with
    | src =>
      simp only [Option.some.injEq, Prod.mk.injEq] at he
      obtain ⟨rfl, rfl, rfl⟩ := he
      have hD := DGet.k (k := (.inr (keyS k) : Key)) S.src.dic
      rw [show ([(Sum.inr "cells", V.ref g.aC), (.inr "left", .int s.left), (.inr "mixed", .int s.mixed), (.inr "turn", .int s.turn)] : List (Key × V)) = srcL s g.aC from rfl, val_src] at hD
      exact ⟨_, S.srcAt h, g.aS.a, _, rfl, hD, fun z' => kt _ H tmp ow z' S .refl (.inl ⟨rfl, .int _, fun _ => rfl⟩)⟩
    | _ => cases he
theorem s_sput {t : Str} (C : Cok X) (ho : PE X o (tVar i)) (he : PE X e (T cf x)) (ht : t = keyS k := by rfl) (hs : swapsWith e (some (.Subscript o (.Constant (.str t) kj p) tpos)) pos.line X.env = pure false := by rfl) : PS X (.Assign [.Subscript o (.Constant (.str t) kj p) tpos] e pos) (TSt cf ff fuel (.sput i k x)) := by
  subst ht
  refine PS.mk' (ps_dput (by have := C.units; omega) ho pe_str he hs) fun D σ H z ⟨g, ow, env, s, out, S, h, kt⟩ => ?_
  simp only [evS] at h
  cases h1 : ev cf x env s with
  | none => rw [h1] at h; cases h
  | some q =>
    obtain ⟨d, env1, s1⟩ := q
    rw [h1] at h
    cases d with
    | int n =>
      dsimp only at h
      cases h2 : rdV env1 i with
      | none => rw [h2] at h; cases h
      | some d0 =>
        rw [h2] at h
        cases d0 with
        | src =>
          cases h
          refine T.weak S h1 fun v H1 ow1 z1 S1 F1 r1 => ?_
          cases r1
          have e1 := put_src s1 g.aC k n
          obtain ⟨c1, c2⟩ := putF_cells s1 n k
          refine ⟨_, S1.srcAt h2, g.aS.a, _, rfl, DPut.k (k := (.inr (keyS k) : Key)) S1.src.dic (show 4 < sizeLine by decide), fun z' => ?_⟩
          have src : SrcR g (s1.putF n k) (upd H1 g.aS.a (.dK (putK [(Sum.inr "cells", V.ref g.aC), (.inr "left", .int s1.left), (.inr "mixed", .int s1.mixed), (.inr "turn", .int s1.turn)] (.inr (keyS k)) (.int n)))) := by
            refine ⟨?_, ?_, by rw [c2]; exact S1.src.fz⟩
            · rw [upd_same]
              exact congrArg (fun l => some (HO.dK l)) e1
            · rw [upd_ne S1.aCS, c1]; exact S1.src.cel
          obtain ⟨S2, F2⟩ := S1.srcUpd (.inl rfl) src
          exact kt σ _ ow1 z' S2 (F1.trans F2 fun _ h => h)
        | _ => cases h
    | _ => simp at h
theorem fill_step {c : List Int} {x l : Int} (h : l < 2) : Sr.fillR (c ++ [x]).reverse l = Sr.fillR c.reverse x := by
  rw [List.reverse_append, List.reverse_singleton, List.singleton_append]
  simp only [Sr.fillR]
  rw [if_pos h]
/-- cells = source["cells"], and the loop behind it -/
def tCells (i j : Nat) : TS := tAsg (tDGet (tVar i) (tC (.str "cells"))) (gName j)
def tDrain (K : PySem.W.Frag) (i j : Nat) : TS := tWhile (tAnd (tB (tLt (tDGet (tVar i) (tC (.str "left"))) (tC (.int 2)))) (tB (tGt (tCB (fun xs H Q => ∃ x n, xs = [x] ∧ LenV K x H n ∧ Q (.int n) H) (tCons (tVar j) tNil)) (tC (.int 0))))) (sDPut (tVar i) (tC (.str "left")) (tBM0 K "list" rPop (tVar j)))
theorem drain_run {K : PySem.W.Frag} {g : Gp} {ow : Ow} {σ : St} {H : Hp} {env : Env} {s : Sr} {D : Ends} (S : Stt g [] ow σ H env s) (hi : rdV env i = some .src) (hj : σ[j]? = some (some (.ref g.aC))) (z : SzOk H) (hz : s.cells.length ≤ sizeLine)
    (k : ∀ H', Stt g [] ow σ H' env s.fill → Frm (Av g [] ow) (Av g [] ow) [] H H' → D.nx σ H') : tDrain K i j D σ H := by
  refine ⟨fun m σ1 H1 => ∃ s1, σ1 = σ ∧ Stt g [] ow σ H1 env s1 ∧ Frm (Av g [] ow) (Av g [] ow) [] H H1 ∧ s1.cells.length = m ∧ m ≤ sizeLine ∧ s1.fill = s.fill, ⟨_, s, rfl, S, .refl, rfl, hz, rfl⟩, ?_⟩
  rintro m σ1 H1 ⟨s1, rfl, S1, F1, hm, hmz, hfl⟩
  have hg := DGet.k (k := (.inr (keyS 0) : Key)) S1.src.dic
  rw [show ([(Sum.inr "cells", V.ref g.aC), (.inr "left", .int s1.left), (.inr "mixed", .int s1.mixed), (.inr "turn", .int s1.turn)] : List (Key × V)) = srcL s1 g.aC from rfl, val_src] at hg
  refine ⟨_, S1.srcAt hi, g.aS.a, _, rfl, hg, s1.left, 2, rfl, rfl, _, rfl, ?_⟩
  have stay : (¬ s1.left < 2 ∨ s1.cells = []) → s1.fill = s1 := fun h => by
    unfold Sr.fill
    rcases h with h | h
    · cases hc : s1.cells.reverse with
      | nil =>
        have : s1.cells = [] := by simpa using hc
        cases s1; simp_all [Sr.fillR]
      | cons c r =>
        have e1 : Sr.fillR (c :: r) s1.left = (c :: r, s1.left) := by simp only [Sr.fillR]; rw [if_neg h]
        rw [e1, ← hc]
        cases s1; simp
    · cases s1; simp_all [Sr.fillR]
  dsimp only
  by_cases hl : s1.left < 2
  · rw [if_pos (decide_eq_true hl)]
    have hlen : LenV K (.ref g.aC) H1 s1.cells.length := .inl ⟨_, SqL.of S1.src.cel, by simp⟩
    refine ⟨_, hj, ⟨.ref g.aC, s1.cells.length, rfl, hlen, (s1.cells.length : Int), 0, rfl, rfl, _, rfl, ?_⟩⟩
    dsimp only
    by_cases hc : 0 < s1.cells.length
    · rw [if_pos (decide_eq_true (by omega))]
      obtain ⟨cs, x, hcs⟩ : ∃ cs x, s1.cells = cs ++ [x] := by
        rcases List.eq_nil_or_concat s1.cells with e | ⟨cs, x, e⟩
        · rw [e] at hc; simp at hc
        · exact ⟨cs, x, by rw [e, List.concat_eq_append]⟩
      refine ⟨fun σ' H' => ∃ s2, σ' = σ1 ∧ Stt g [] ow σ1 H' env s2 ∧ Frm (Av g [] ow) (Av g [] ow) [] H H' ∧ s2.cells.length = cs.length ∧ s2.fill = s.fill, fun σ' H' ⟨s2, e1, S2, F2, h2, h3⟩ => ⟨cs.length, by rw [← hm, hcs]; simp, s2, e1, S2, F2, h2, by have := hmz; rw [← hm, hcs] at this; simp at this; omega, h3⟩, ?_⟩
      have hlst := S1.src.cel
      refine ⟨.ref g.aC, hj, .inl ⟨rfl, _, SqL.of hlst⟩, g.aC, s1.cells.map V.int, .int x, rfl, rfl, hlst, by rw [hcs]; simp, ?_⟩
      -- the cell is taken
      have S2 := S1.srcUpd (s' := { s1 with cells := cs }) (a := g.aC) (o := .lst (s1.cells.map V.int).dropLast) (.inr rfl) ⟨by rw [upd_ne (Ne.symm S1.aCS)]; exact S1.src.dic, by rw [upd_same, hcs]; simp, S1.src.fz⟩
      obtain ⟨S2, F2⟩ := S2
      have e1 := put_src { s1 with cells := cs } g.aC 0 x
      refine ⟨_, S2.srcAt hi, g.aS.a, _, rfl, DPut.k (k := (.inr (keyS 0) : Key)) S2.src.dic (show 4 < sizeLine by decide), ?_⟩
      have S3 := S2.srcUpd (s' := { s1 with cells := cs, left := x }) (a := g.aS.a) (o := .dK (putK [(Sum.inr "cells", V.ref g.aC), (.inr "left", .int s1.left), (.inr "mixed", .int s1.mixed), (.inr "turn", .int s1.turn)] (.inr (keyS 0)) (.int x))) (.inl rfl)
        ⟨by rw [upd_same]; exact congrArg (fun l => some (HO.dK l)) e1, by rw [upd_ne S2.aCS]; exact S2.src.cel, S1.src.fz⟩
      obtain ⟨S3, F3⟩ := S3
      refine ⟨_, rfl, S3, (F1.trans F2 fun _ h => h).trans F3 fun _ h => h, rfl, ?_⟩
      rw [← hfl]
      unfold Sr.fill
      have e2 : Sr.fillR s1.cells.reverse s1.left = Sr.fillR cs.reverse x := by rw [hcs]; exact fill_step hl
      rw [e2]
    · rw [if_neg (by simpa using hc)]
      have hn : s1.cells = [] := List.eq_nil_of_length_eq_zero (by omega)
      rw [← hfl, stay (.inr hn)] at k
      exact k H1 S1 F1
  · rw [if_neg (show ¬ decide (s1.left < 2) = true by simpa using hl), if_neg Bool.false_ne_true]
    rw [← hfl, stay (.inl hl)] at k
    exact k H1 S1 F1
theorem s_fill {st1 st2 : Stmt} (h1 : PS X st1 (tCells i j)) (h2 : PS X st2 (tDrain X.K i j)) (hrest : PSs X rest (TSs cf ff fuel ms)) : PSs X (st1 :: st2 :: rest) (TSs cf ff fuel (.sfill i j :: ms)) := by
  refine PSs.mk' (pss_cons h1 (pss_cons h2 hrest)) fun D σ H z ⟨g, ow, env, s, o, S, he, k⟩ => ?_
  simp only [evSs] at he
  have ⟨hij, hi, he'⟩ : ¬ (i = j ∨ env.length ≤ j) ∧ rdV env i = some .src ∧ evSs cf ff fuel ms (env.set j none) s.fill = some o := by
    cases h3 : evS cf ff fuel (.sfill i j) env s with
    | none => rw [h3] at he; cases he
    | some o1 =>
      rw [h3] at he
      simp only [evS] at h3
      split at h3
      · cases h3
      · rename_i hij
        split at h3
        · rename_i hi
          cases h3
          exact ⟨hij, hi, he⟩
        · cases h3
  have hg := DGet.k (k := (.inr "cells" : Key)) S.src.dic
  refine ⟨_, S.srcAt hi, g.aS.a, .ref g.aC, rfl, hg, ?_⟩
  show tDrain X.K i j _ (σ.set j (some (.ref g.aC))) H
  -- the slot is forgotten by the evaluator
  obtain ⟨S1, F1⟩ := S.wiped [j] (σ' := σ.set j (some (.ref g.aC))) (by rw [List.length_set]) fun m hm => List.getElem?_set_ne (fun e => hm (by simp [e]))
  have S1 : Stt g [] (owW [j] ow) (σ.set j (some (.ref g.aC))) H (env.set j none) s := S1
  have hjl : j < σ.length := by rw [← S.len]; omega
  have hi2 : rdV (env.set j none) i = some .src := by
    unfold rdV at hi ⊢
    rw [List.getElem?_set_ne (fun e => hij (.inl e.symm))]
    exact hi
  have hzc : s.cells.length ≤ sizeLine := by
    have := z g.aC _ (.inl S.src.cel)
    rw [List.length_map] at this
    have e : szLine = 16777216 := rfl
    have e' : sizeLine = 16777216 := by decide
    omega
  exact drain_run S1 hi2 (List.getElem?_set_self hjl) z hzc fun H' S2 F2 => ⟨g, _, _, _, o, S2, he', (k.from (F1.trans F2 fun _ h => h)).sz⟩
end
end Rf
end

section
set_option linter.all false
set_option Elab.async false
set_option maxRecDepth 100000
namespace Rf
open PySem L2

/-! the source is made: script, a number mixed of its cells, a new dict -/
def spSrc (K : PySem.W.Frag) : List V → Hp → VK → Prop := fun vs H Q => ∃ (a : Addr) (ns : List Int), vs = [.ref a] ∧ SqL K H a (ns.map V.int) ∧ ns.length ≤ 63 ∧
  ∀ aS aC s H', H aS = none → H aC = none → H' aS = some (.dK (srcL s aC)) → H' aC = some (.lst (s.cells.map V.int)) → (∀ b o, H b = some o → H' b = some o) → Q (.ref aS) H'
def tMixE : TE := tOp (rI (fun _ j => 0 < j) fun i j => .int (i % j)) (tCB (fun xs H Q => (∃ i, xs = [.int i] ∧ Q (.int i) H) ∨ ∃ k, xs = [.bl k] ∧ Q (.int (if k then 1 else 0)) H)
  (tCons (tOp (rI0 fun i j => .int (i + j)) (tOp (rI0 fun i j => .int (i + j)) (tOp (rI CMul fun i j => .int (i * j)) (tVar 1) (tC (.int 69069))) (tOp (rI CMul fun i j => .int (i * j)) (tVar 2) (tC (.int 31)))) (tC (.int 5))) tNil)) (tC (.int 2147483629))
def tAbsE : TE := tCB (fun xs H Q => ∃ i, xs = [.int i] ∧ Q (.int (if i < 0 then -i else i)) H) (tCons (tVar 2) tNil)
def tSrcDisp (K : PySem.W.Frag) : TE := tDisp [(tC (.str "cells"), tRevL K (tVar 3)), (tC (.str "left"), tC (.int 1)), (tC (.str "mixed"), tVar 1), (tC (.str "turn"), tC (.int 0))]
def tSrc (K : PySem.W.Frag) : TS := tSeq (tAsg (tC (.int 11)) (gName 1)) (tSeq (tFor (iList K (tVar 0)) (gName 2) (tAsg tMixE (gName 1))) (tSeq (tAsg (tLc (iList K (tVar 0)) (gName 2) tYes tAbsE [2]) (gName 3)) (tRet (tSrcDisp K))))
theorem mix_run {σ : St} {H : Hp} {Q : VK} {x y : Int} (h1 : σ[1]? = some (some (.int x))) (h2 : σ[2]? = some (some (.int y))) (k : ∀ z, Q (.int z) H) : tMixE σ H Q := by
  refine ⟨_, h1, x, 69069, rfl, rfl, .inr (by decide), _, h2, y, 31, rfl, rfl, .inr (by decide), _, _, rfl, rfl, _, _, rfl, rfl, .inl ⟨_, rfl, _, _, rfl, rfl, (show (0 : Int) < 2147483629 by decide), k _⟩⟩
theorem src_run {K : PySem.W.Frag} {N : List Str} (hN : N.length = 4) {vs : List V} {H : Hp} {Q : VK} (h : spSrc K vs H Q) : tSrc K { nx := fun _ H' => Q .non H', rt := Q } (L2.start N vs) H := by
  obtain ⟨a, ns, rfl, hs, hl, k⟩ := h
  have e0 : L2.start N [V.ref a] = [some (.ref a), none, none, none] := by
    unfold L2.start
    rw [hN]; rfl
  rw [e0]
  show tSeq _ _ _ [some (.ref a), some (.int 11), none, none] H
  have at_ : ∀ {H' : Hp} {i : Nat}, SqL K H' a (ns.map V.int) → ∀ hi : i < ns.length, ∃ xs x, SqL K H' a xs ∧ xs[i]? = some x := fun {H' i} hs hi => ⟨_, V.int ns[i], hs, by rw [List.getElem?_map, List.getElem?_eq_getElem hi]; rfl⟩
  have get : ∀ {H' : Hp} {i : Nat} {x : V}, SqL K H' a (ns.map V.int) → i < ns.length → (∀ xs, SqL K H' a xs → xs[i]? = some x) → ∃ n, x = .int n := fun {H' i x} hs hi h => by
    have := h _ hs
    rw [List.getElem?_map, List.getElem?_eq_getElem hi] at this
    exact ⟨_, (Option.some.inj this).symm⟩
  refine ⟨_, rfl, a, rfl, ⟨_, hs⟩, fun i m σ1 H1 => H1 = H ∧ i ≤ ns.length ∧ m = ns.length - i ∧ ∃ (x : Int) (o2 : Option V), σ1 = [some (.ref a), some (.int x), o2, none], ⟨ns.length, rfl, by omega, by omega, 11, none, rfl⟩, ?_⟩
  rintro i m σ1 H1 ⟨rfl, hi, hm, x, o2, rfl⟩
  by_cases hlt : i < ns.length
  · refine .inr ⟨at_ hs hlt, fun σ' H' => H' = H1 ∧ ∃ (x : Int) (o2 : Option V), σ' = [some (.ref a), some (.int x), o2, none], fun σ' H' ⟨e1, x, o2, e2⟩ => ⟨ns.length - (i + 1), by omega, e1, by omega, rfl, x, o2, e2⟩, ?_⟩
    rintro y H' ⟨rfl, hy⟩
    obtain ⟨n, rfl⟩ := get hs hlt hy
    exact mix_run (x := x) (y := n) rfl rfl fun z => ⟨rfl, z, some (.int n), rfl⟩
  · refine .inl ⟨⟨_, hs, by rw [List.length_map]; omega⟩, ?_⟩
    show tSeq _ _ _ _ H1
    -- the cells
    refine ⟨_, rfl, a, rfl, ⟨_, hs⟩, fun D hD => ⟨fun i m H2 => i ≤ ns.length ∧ m = ns.length - i ∧ (∀ b, b ≠ D → H2 b = H1 b) ∧ ∃ cs : List Int, H2 D = some (.lst (cs.map V.int)) ∧ cs.length ≤ i, ⟨ns.length, by omega, by omega, fun b hb => upd_ne hb, [], upd_same, by simp⟩, ?_⟩⟩
    rintro i m H2 ⟨hi2, hm2, off, cs, hcs, hcl⟩
    have old : ∀ b o, H1 b = some o → H2 b = some o := fun b o e => by
      rw [off b (fun z => by rw [z, hD] at e; cases e)]; exact e
    have hs2 : SqL K H2 a (ns.map V.int) := Same.seq old hs
    by_cases hlt2 : i < ns.length
    · refine .inr ⟨at_ hs2 hlt2, fun H' => (∀ b, b ≠ D → H' b = H1 b) ∧ ∃ cs : List Int, H' D = some (.lst (cs.map V.int)) ∧ cs.length ≤ i + 1, fun H' ⟨e1, e2⟩ => ⟨ns.length - (i + 1), by omega, by omega, rfl, e1, e2⟩, ?_⟩
      rintro y H' ⟨rfl, hy⟩
      obtain ⟨n, rfl⟩ := get hs2 hlt2 hy
      refine ⟨rfl, ?_⟩
      unfold tYes
      dsimp only
      rw [if_pos rfl]
      refine ⟨_, rfl, n, rfl, cs.map V.int, hcs, ?_, fun b hb => by rw [upd_ne hb]; exact off b hb, cs ++ [if n < 0 then -n else n], by rw [upd_same, List.map_append]; rfl, by simp; omega⟩
      have : sizeLine = 16777216 := by decide
      rw [List.length_map]; omega
    · refine .inl ⟨⟨_, hs2, by rw [List.length_map]; omega⟩, ?_⟩
      show tSrcDisp K [some (.ref a), some (.int x), o2, some (.ref D)] H2 Q
      intro p hp
      have hDp : D ≠ p := fun e => by rw [e, hp] at hcs; cases hcs
      refine ⟨_, rfl, D, _, rfl, SqL.of (by rw [upd_ne hDp]; exact hcs), fun q hq => ?_⟩
      have hqp : q ≠ p := fun e => by rw [e, upd_same] at hq; cases hq
      have hq2 : H2 q = none := by rw [upd_ne hqp] at hq; exact hq
      have old' : ∀ {b : Addr}, H2 b = none → H1 b = none := fun {b} e => by
        cases r : H1 b with
        | none => rfl
        | some o => rw [old b o r] at e; cases e
      refine ⟨.int x, rfl, by rw [upd_ne (Ne.symm hqp), upd_same], srcL ⟨cs.reverse, 1, x, 0, false⟩ q, rfl, (show 4 ≤ 15 by decide), ?_⟩
      refine k p q ⟨cs.reverse, 1, x, 0, false⟩ _ (old' hp) (old' hq2) ?_ ?_ fun b o e => ?_
      · rw [upd_same]; rfl
      · rw [upd_ne hqp, upd_same, List.map_reverse]
      · have hb := old b o e
        have h1 : b ≠ p := fun z => by rw [z, hp] at hb; cases hb
        have h2 : b ≠ q := fun z => by rw [z, hq2] at hb; cases hb
        rw [upd_ne h1, upd_ne h2, upd_ne h1]; exact hb
/-- the law's def: the source is made, the rest is the evaluator's -/
def spLaw (n : Nat) (K : PySem.W.Frag) : List V → Hp → VK → Prop := fun vs H Q => ∃ (a : Addr) (ns : List Int), vs = [.ref a] ∧ SqL K H a (ns.map V.int) ∧ ns.length ≤ n ∧ ∀ H', Q (.bl true) H'
theorem law_run {X : Cx} {cf : Cf} {fuel : Nat} {f : Addr} {fd : FuncData} {k : Nat} {st : Stmt} {rest : List Stmt} {ms : List Sm} {N : List Str} {fz : Bool} (C : Cok X) (hr : Room k X.A) (F1 : FnG X.prog X.w X.K X.mg X.base k f fd ["script"] (spSrc X.K))
    (h1 : PS X st (tAsg (fun σ H Q => tCons (tVar 0) tNil σ H fun vs H1 => spSrc X.K vs H1 Q) (gName 1))) (hrest : PSs X rest (TSs cf false fuel ms)) (hN : 2 ≤ N.length)
    (plain : ∀ s : Sr, s.fz = fz → ∃ s', evSs cf false fuel ms ((none : Option (Bool × D)) :: some (false, .src) :: List.replicate (N.length - 2) none) s = some (.rt (.bl true) s')) {vs : List V} {H : Hp} {Q : VK} (h : spLaw 63 X.K vs H Q) :
    ∃ t, PSs X (st :: rest) t ∧ t { nx := fun _ H' => Q .non H', rt := Q } (L2.start N vs) H := by
  refine ⟨_, pss_cons h1 hrest, ?_⟩
  obtain ⟨a, ns, rfl, hs, hl, kq⟩ := h
  have e0 : L2.start N [V.ref a] = some (.ref a) :: none :: List.replicate (N.length - 2) none := by
    unfold L2.start
    obtain ⟨m, hm⟩ : ∃ m, N.length = m + 2 := ⟨N.length - 2, by omega⟩
    rw [hm]; rfl
  rw [e0]
  refine ⟨_, rfl, a, ns, rfl, hs, hl, fun aS aC s H' hS hC h3 h4 old => ?_⟩
  obtain ⟨s', hp⟩ := plain { s with fz := fz } rfl
  refine ⟨⟨⟨aS, fz⟩, aC, fun _ => False, H'⟩, noO, _, { s with fz := fz }, _, ⟨?_, fun i fl d e => ?_, fun i j b e => (by cases e), fun i b e => (by cases e), fun b hb => (by cases hb), List.nodup_nil, fun b z => ?_, fun b o e _ _ => e, ⟨h3, h4, rfl⟩⟩, hp, fun v σ' H2 tmp' ow' env' _ _ _ x => ?_⟩
  · simp
  · match i, e with
    | 0, e => cases e
    | 1, e =>
      cases e
      exact ⟨.ref aS, rfl, .inr ⟨rfl, fun h => (by cases h), .src⟩⟩
    | i + 2, e =>
      have e : (List.replicate (N.length - 2) (none : Option (Bool × D)))[i]? = some (some (fl, d)) := e
      rw [List.getElem?_replicate] at e
      split at e <;> cases e
  · rcases z with z | z | z | z | ⟨i, z⟩
    · exact z.elim
    · rw [z, h3]; simp
    · rw [z, h4]; simp
    · cases z
    · cases z
  · rcases x with ⟨_, r, _⟩ | ⟨hx, _⟩
    · cases r; exact kq H2
    · cases hx
end Rf
end

section
set_option linter.all false
set_option Elab.async false
set_option maxRecDepth 100000
namespace Rf
open PySem L2

/-! several stores at once, some of new things that stay one's own -/
inductive VL (aS : AS) (A : Addr → Prop) (H : Hp) : List Ex → List V → List D → List Addr → Prop
  | nil : VL aS A H [] [] [] []
  | rep {x : Ex} {xs : List Ex} {v : V} {vs : List V} {d : D} {ds : List D} {os : List Addr} (r : Rep aS A H v d) (c : fr x = true → d.chg = false) (l : VL aS A H xs vs ds os) : VL aS A H (x :: xs) (v :: vs) (d :: ds) os
  | own {x : Ex} {xs : List Ex} {a : Addr} {vs : List V} {d : D} {ds : List D} {os : List Addr} (c : fr x = true) (t : Top aS A H a d) (l : VL aS A H xs vs ds os) : VL aS A H (x :: xs) (.ref a :: vs) (d :: ds) (a :: os)
theorem VL.frm {aS : AS} {A A' : Addr → Prop} {t : List Addr} {H H' : Hp} (F : Frm A A' t H H') : ∀ {xs : List Ex} {vs : List V} {ds : List D} {os : List Addr}, VL aS A H xs vs ds os → (∀ a ∈ os, H' a = H a) → VL aS A' H' xs vs ds os
  | _, _, _, _, .nil, _ => .nil
  | _, _, _, _, .rep r c l, h => .rep (r.frm F) c (VL.frm F l h)
  | _, _, _, _, .own c t l, h => .own c (t.frm F (h _ List.mem_cons_self)) (VL.frm F l fun a ha => h a (List.mem_cons_of_mem _ ha))
theorem Av_eq {g : Gp} {t t' : List Addr} {ow : Ow} (h : ∀ a, a ∈ t ↔ a ∈ t') : Av g t ow = Av g t' ow := funext fun a => propext (by unfold Av; rw [h a])
theorem Stt.perm {g : Gp} {t t' : List Addr} {ow : Ow} {σ : St} {H : Hp} {env : Env} {s : Sr} (S : Stt g t ow σ H env s) (h : ∀ a, a ∈ t ↔ a ∈ t') (nd : t'.Nodup) : Stt g t' ow σ H env s :=
  ⟨S.len, fun i f d e => by have := S.slot i f d e; rw [Av_eq h] at this; exact this, S.inj, fun i a e => ⟨fun z => (S.owN i a e).1 ((h a).mpr z), (S.owN i a e).2⟩, fun a ha => S.tmN a ((h a).mpr ha), nd, fun a z => S.alive a (by rw [Av_eq h]; exact z), S.same, S.src⟩
def TAo (cf : Cf) (es : List Ex) : TA := fun σ H Q => ∃ g tmp ow env s ds env' s', Stt g tmp ow σ H env s ∧ evs cf es env s = some (ds, env', s') ∧
  ∀ vs H' ow' os, SzOk H' → Stt g (os.reverse ++ tmp) ow' σ H' env' s' → Frm (Av g tmp ow) (Av g (os.reverse ++ tmp) ow') tmp H H' → VL g.aS (Av g (os.reverse ++ tmp) ow') H' es vs ds os → Q vs H'
section
variable {X : Cx} {cf : Cf} {ff : Bool} {fuel : Nat} {a b c e : Expr} {x : Ex} {pos : Pos} {es : List Expr} {xs : List Ex}
theorem u_nil : PA X [] (TAo cf []) := PA.mk' pa_nil fun σ H Q z ⟨g, tmp, ow, env, s, ds, env', s', S, he, k⟩ => by
  simp only [evs, Option.some.injEq, Prod.mk.injEq] at he
  obtain ⟨rfl, rfl, rfl⟩ := he
  exact fun z' => k [] H ow [] z' S .refl .nil
theorem u_cons (he : PE X e (T cf x)) (hr : PA X es (TAo cf xs)) (hx : ∀ l, x ≠ .star l := by intro _ h; cases h) (hs : starEach (e :: es) X.env = (false, eval e X.env) :: starEach es X.env := by rfl) : PA X (e :: es) (TAo cf (x :: xs)) :=
  PA.mk' (pa_cons he hr hs) fun σ H Q z ⟨g, tmp, ow, env, s, ds, env', s', S, hev, k⟩ => by
    have hev' : (match ev cf x env s with
          | some (d, env, s) => match evs cf xs env s with
            | some (ds, env, s) => some (d :: ds, env, s)
            | none => none
          | none => none) = some (ds, env', s') := by
      cases x <;> first | exact hev | exact absurd rfl (hx _)
    cases h1 : ev cf x env s with
    | none => rw [h1] at hev'; cases hev'
    | some q =>
      obtain ⟨d, env1, s1⟩ := q
      rw [h1] at hev'
      dsimp only at hev'
      cases h2 : evs cf xs env1 s1 with
      | none => rw [h2] at hev'; cases hev'
      | some q =>
        obtain ⟨ds1, env2, s2⟩ := q
        rw [h2] at hev'
        simp only [Option.some.injEq, Prod.mk.injEq] at hev'
        obtain ⟨rfl, rfl, rfl⟩ := hev'
        refine T.run S h1 fun v H1 tmp1 ow1 z1 S1 F1 w1 => ?_
        refine ⟨g, tmp1, ow1, env1, s1, ds1, env2, s2, S1, h2, fun vs H' ow' os z' S' F r => fun z2 => ?_⟩
        rcases w1 with ⟨rfl, r1, hc⟩ | ⟨hf, p, rfl, rfl, t⟩
        · exact k _ H' ow' os z' S' (F1.trans F fun _ h => h) (.rep (r1.frm F) hc r)
        · have e : os.reverse ++ (p :: tmp) = (p :: os).reverse ++ tmp := by simp
          have t' := t.frm F (F.tops p List.mem_cons_self)
          rw [e] at S' F r t'
          exact k _ H' ow' (p :: os) z' S' (F1.trans F fun _ h => List.mem_cons_of_mem _ h) (.own hf t' r)
def setAll : St → List Nat → List V → St
  | σ, i :: is, v :: vs => setAll (σ.set i (some v)) is vs
  | σ, _, _ => σ
theorem store_all {g : Gp} {H : Hp} {s : Sr} {A : Addr → Prop} : ∀ {xs : List Ex} {vs : List V} {ds : List D} {os : List Addr}, VL g.aS A H xs vs ds os → ∀ {owns : List Bool} {is : List Nat} {ow : Ow} {σ : St} {env env' : Env}, A = Av g os ow → Stt g os ow σ H env s → putsE owns is xs ds env = some env' → ∃ ow', Stt g [] ow' (setAll σ is vs) H env' s ∧ Frm A (Av g [] ow') [] H H
  | _, _, _, _, .nil, owns, is, ow, σ, env, env', hA, S, h => by
    subst hA
    cases owns <;> cases is <;> simp only [putsE, reduceCtorEq, Option.some.injEq] at h
    subst h
    exact ⟨ow, S, .refl⟩
  | _, _, _, _, .rep r c l, owns, is, ow, σ, env, env', hA, S, h => by
    subst hA
    cases owns with
    | nil => simp only [putsE, reduceCtorEq] at h
    | cons o owns =>
      cases is with
      | nil => simp only [putsE, reduceCtorEq] at h
      | cons i is =>
        simp only [putsE] at h
        split at h
        · rename_i hc
          obtain ⟨S2, F2⟩ := S.put (i := i) r o (fun ho => c (by subst ho; simp at hc; exact hc.1))
          obtain ⟨ow', S3, F3⟩ := store_all (l.frm F2 fun _ _ => rfl) rfl S2 h
          exact ⟨ow', S3, (F2.mono (u := []) fun _ h => by cases h).trans F3 fun _ h => h⟩
        · cases h
  | _, _, _, _, .own (a := p) (os := os1) c t l, owns, is, ow, σ, env, env', hA, S, h => by
    subst hA
    cases owns with
    | nil => simp only [putsE, reduceCtorEq] at h
    | cons o owns =>
      cases is with
      | nil => simp only [putsE, reduceCtorEq] at h
      | cons i is =>
        simp only [putsE] at h
        split at h
        · rename_i hc
          cases o with
          | true =>
            obtain ⟨S2, F2⟩ := S.own (i := i) t
            obtain ⟨ow', S3, F3⟩ := store_all (l.frm F2 fun _ _ => rfl) rfl S2 h
            exact ⟨ow', S3, (F2.mono (u := []) fun _ h => by cases h).trans F3 fun _ h => h⟩
          | false =>
            obtain ⟨S1, n⟩ := S.drop
            have G : Frm (Av g (p :: os1) ow) (Av g os1 ow) [] H H := frm_shrink tmp_sub_drop
            obtain ⟨S2, F2⟩ := S1.put (i := i) ((t.frm G rfl).rep n) false (fun h => by cases h)
            have F4 := G.trans (F2.mono (u := []) fun _ h => by cases h) fun _ h => h
            obtain ⟨ow', S3, F3⟩ := store_all (l.frm F4 fun _ _ => rfl) rfl S2 h
            exact ⟨ow', S3, F4.trans F3 fun _ h => h⟩
        · cases h
theorem store_run {g : Gp} {ow ow1 : Ow} {σ : St} {H H1 : Hp} {env env' : Env} {s' : Sr} {xs : List Ex} {vs : List V} {ds : List D} {os : List Addr} {D : Ends} {owns : List Bool} {is : List Nat}
    (k : SOut ff g ow H D (.nx env' s')) (z' : SzOk H1) (S : Stt g (os.reverse ++ []) ow1 σ H1 env s') (F : Frm (Av g [] ow) (Av g (os.reverse ++ []) ow1) [] H H1) (r : VL g.aS (Av g (os.reverse ++ []) ow1) H1 xs vs ds os) (h : putsE owns is xs ds env = some env') : D.nx (setAll σ is vs) H1 := by
  have hm : ∀ a, a ∈ os.reverse ++ [] ↔ a ∈ os := fun a => by simp
  have nd : os.Nodup := by
    have := S.tmD
    rw [List.append_nil] at this
    exact (List.reverse_perm os).nodup_iff.mp this
  have S2 := S.perm hm nd
  rw [Av_eq hm] at F r
  obtain ⟨ow', S3, F3⟩ := store_all r rfl S2 h
  exact k _ H1 ow' z' S3 (F.trans F3 fun _ h => h)
theorem s_parO2 {i j : Nat} {o1 o2 : Bool} {y1 y2 : Str} {px py pt : Pos} {kt k2 : Nat} {pt2 : Pos} (C : Cok X) (hi : X.N[i]? = some y1) (hj : X.N[j]? = some y2) (hx : X.env.scope.names.lookup y1 = some .local) (hy : X.env.scope.names.lookup y2 = some .local) (ha : PA X [a, b] (TAo cf xs)) (hij : i ≠ j := by decide)
    (hw : swappedStores [.Tuple [.Name y1 px, .Name y2 py] kt pt] (.Tuple [a, b] k2 pt2) X.env = pure (some [y1, y2]) := by rfl) (hs : swapsWithSole [.Tuple [.Name y1 px, .Name y2 py] kt pt] (.Tuple [a, b] k2 pt2) pos.line X.env = pure false := by rfl) :
    PS X (.Assign [.Tuple [.Name y1 px, .Name y2 py] kt pt] (.Tuple [a, b] k2 pt2) pos) (TSt cf ff fuel (.par [o1, o2] [i, j] xs)) :=
  PS.mk' (ps_par C.calm C.nd hi hj hij hx hy ha hw hs) fun D σ H z ⟨g, ow, env, s, o, S, h, k⟩ => by
    simp only [evS] at h
    cases h1 : evs cf xs env s with
    | none => rw [h1] at h; cases h
    | some q =>
      obtain ⟨ds, env1, s1⟩ := q
      rw [h1] at h
      dsimp only at h
      cases h2 : putsE [o1, o2] [i, j] xs ds env1 with
      | none => rw [h2] at h; cases h
      | some env2 =>
        rw [h2] at h
        cases h
        refine ⟨g, [], ow, env, s, ds, env1, s1, S, h1, fun vs H1 ow1 os z1 S1 F1 r => ?_⟩
        have hl : ∃ v1 v2, vs = [v1, v2] := by
          have len : ∀ {aS : AS} {A : Addr → Prop} {H : Hp} {xs : List Ex} {vs : List V} {ds : List Rf.D} {os : List Addr}, VL aS A H xs vs ds os → xs.length = vs.length := fun l => by
            induction l with
            | nil => rfl
            | rep _ _ _ ih => simp [ih]
            | own _ _ _ ih => simp [ih]
          have e := len r
          have : xs.length = 2 := by
            cases xs with
            | nil => cases ds <;> simp [putsE] at h2
            | cons x1 xs => cases xs with
              | nil => cases ds with
                | nil => simp [putsE] at h2
                | cons d ds => cases ds <;> simp [putsE] at h2
              | cons x2 xs => cases xs with
                | nil => rfl
                | cons x3 xs => cases ds with
                  | nil => simp [putsE] at h2
                  | cons d ds => cases ds with
                    | nil => simp [putsE] at h2
                    | cons d ds => cases ds <;> simp [putsE] at h2
          rw [this] at e
          match vs, e with
          | [v1, v2], _ => exact ⟨v1, v2, rfl⟩
        obtain ⟨v1, v2, rfl⟩ := hl
        exact ⟨_, _, rfl, fun z' => store_run k z' S1 F1 r h2⟩
theorem s_parO3 {i j l : Nat} {o1 o2 o3 : Bool} {y1 y2 y3 : Str} {px py pz pt : Pos} {kt k2 : Nat} {pt2 : Pos} (C : Cok X) (hi : X.N[i]? = some y1) (hj : X.N[j]? = some y2) (hl : X.N[l]? = some y3) (hx : X.env.scope.names.lookup y1 = some .local) (hy : X.env.scope.names.lookup y2 = some .local) (hz : X.env.scope.names.lookup y3 = some .local) (ha : PA X [a, b, c] (TAo cf xs)) (hij : i ≠ j := by decide) (hil : i ≠ l := by decide) (hjl : j ≠ l := by decide)
    (hw : swappedStores [.Tuple [.Name y1 px, .Name y2 py, .Name y3 pz] kt pt] (.Tuple [a, b, c] k2 pt2) X.env = pure (some [y1, y2, y3]) := by rfl) (hs : swapsWithSole [.Tuple [.Name y1 px, .Name y2 py, .Name y3 pz] kt pt] (.Tuple [a, b, c] k2 pt2) pos.line X.env = pure false := by rfl) :
    PS X (.Assign [.Tuple [.Name y1 px, .Name y2 py, .Name y3 pz] kt pt] (.Tuple [a, b, c] k2 pt2) pos) (TSt cf ff fuel (.par [o1, o2, o3] [i, j, l] xs)) :=
  PS.mk' (ps_par3 C.calm C.nd hi hj hl hij hil hjl hx hy hz ha hw hs) fun D σ H z ⟨g, ow, env, s, o, S, h, k⟩ => by
    simp only [evS] at h
    cases h1 : evs cf xs env s with
    | none => rw [h1] at h; cases h
    | some q =>
      obtain ⟨ds, env1, s1⟩ := q
      rw [h1] at h
      dsimp only at h
      cases h2 : putsE [o1, o2, o3] [i, j, l] xs ds env1 with
      | none => rw [h2] at h; cases h
      | some env2 =>
        rw [h2] at h
        cases h
        refine ⟨g, [], ow, env, s, ds, env1, s1, S, h1, fun vs H1 ow1 os z1 S1 F1 r => ?_⟩
        have hl : ∃ v1 v2 v3, vs = [v1, v2, v3] := by
          have h3 := h2
          have : ∀ {aS : AS} {A : Addr → Prop} {H : Hp} {xs : List Ex} {vs : List V} {ds : List Rf.D} {os : List Addr}, VL aS A H xs vs ds os → ∀ {owns : List Bool} {is : List Nat} {env env' : Env}, putsE owns is xs ds env = some env' → vs.length = is.length := fun l => by
            induction l with
            | nil => intro owns is env env' h; cases owns <;> cases is <;> simp [putsE] at h <;> rfl
            | rep _ _ _ ih =>
              intro owns is env env' h
              cases owns <;> cases is <;> simp only [putsE, reduceCtorEq] at h
              split at h
              · simp [ih h]
              · cases h
            | own _ _ _ ih =>
              intro owns is env env' h
              cases owns <;> cases is <;> simp only [putsE, reduceCtorEq] at h
              split at h
              · simp [ih h]
              · cases h
          have e := this r h3
          match vs, e with
          | [v1, v2, v3], _ => exact ⟨v1, v2, v3, rfl⟩
        obtain ⟨v1, v2, v3, rfl⟩ := hl
        exact ⟨_, _, _, rfl, fun z' => store_run k z' S1 F1 r h2⟩
end
end Rf
end

section
set_option linter.all false
set_option autoImplicit false
set_option Elab.async false
/-! Rp0: the evaluator's clauses as rewriting rules without matches; plain Lean. -/
namespace Rf
def asB : D → Option Bool
  | .bl b => some b
  | _ => none
def asI : D → Option Int
  | .int i => some i
  | _ => none
def isSrc : D → Bool
  | .src => true
  | _ => false
variable (cf : Cf)
section
variable (a b c d e : Ex) (es xs : List Ex) (env : Env) (s : Sr) (i k : Nat)
theorem v_var : ev cf (.var i) env s = (rdV env i).bind fun d => some (d, env, s) := by simp only [ev]; cases rdV env i <;> rfl
theorem v_bor : ev cf (.bor i) env s = (rd env i).bind fun d => some (d, env, s) := by simp only [ev]; cases rd env i <;> rfl
theorem v_int (n : Int) : ev cf (.int n) env s = some (.int n, env, s) := by simp only [ev]
theorem v_bl (n : Bool) : ev cf (.bl n) env s = some (.bl n, env, s) := by simp only [ev]
theorem v_str (n : List Nat) : ev cf (.str n) env s = some (.str n, env, s) := by simp only [ev]
theorem v_non : ev cf .non env s = some (.non, env, s) := by simp only [ev]
theorem v_sget : ev cf (.sget i k) env s = (rdV env i).bind fun d => if isSrc d then some (.int (s.fld k), env, s) else none := by
  simp only [ev]
  cases rdV env i with
  | none => rfl
  | some d => cases d <;> rfl
theorem v_not : ev cf (.not a) env s = (ev cf a env s).bind fun q => (asB q.1).bind fun b => some (.bl (!b), q.2.1, q.2.2) := by
  simp only [ev]
  cases ev cf a env s with
  | none => rfl
  | some q => obtain ⟨d, _, _⟩ := q; cases d <;> rfl
theorem v_and : ev cf (.and a b) env s = (ev cf a env s).bind fun q => (asB q.1).bind fun x => if x = true then ev cf b q.2.1 q.2.2 else some (.bl false, q.2.1, q.2.2) := by
  simp only [ev]
  cases ev cf a env s with
  | none => rfl
  | some q => obtain ⟨d, _, _⟩ := q; cases d <;> rfl
theorem v_or : ev cf (.or a b) env s = (ev cf a env s).bind fun q => (asB q.1).bind fun x => if x = true then some (.bl true, q.2.1, q.2.2) else ev cf b q.2.1 q.2.2 := by
  simp only [ev]
  cases ev cf a env s with
  | none => rfl
  | some q => obtain ⟨d, _, _⟩ := q; cases d <;> rfl
theorem v_ife : ev cf (.ife c a b) env s = (ev cf c env s).bind fun q => (asB q.1).bind fun x => if x = true then ev cf a q.2.1 q.2.2 else ev cf b q.2.1 q.2.2 := by
  simp only [ev]
  cases ev cf c env s with
  | none => rfl
  | some q => obtain ⟨d, _, _⟩ := q; cases d <;> rfl
theorem v_tup : ev cf (.tup es) env s = (evs cf es env s).bind fun q => if q.1.length ≤ szLine then some (.tup q.1, q.2.1, q.2.2) else none := by
  simp only [ev]
  cases evs cf es env s <;> rfl
theorem v_lst : ev cf (.lst es) env s = (evs cf es env s).bind fun q => if q.1.length ≤ szLine then some (.lst q.1, q.2.1, q.2.2) else none := by
  simp only [ev]
  cases evs cf es env s <;> rfl
theorem v_dnew (t : Bool) : ev cf (.dnew t) env s = if (t && s.fz) = true then none else some (.dct t [], env, s) := by simp only [ev]
theorem v_call (f : Nat) (fr : Bool) : ev cf (.call f fr es) env s = (evs cf es env s).bind fun q => (cf f q.1 q.2.2).bind fun r => some (r.1, q.2.1, r.2) := by
  simp only [ev]
  cases evs cf es env s with
  | none => rfl
  | some q => obtain ⟨ds, en, s1⟩ := q; simp only [Option.bind_some]; cases cf f ds s1 <;> rfl
theorem v_bi (o : Bi) : ev cf (.bi o es) env s = (evOs cf es env s).bind fun q => if badB o q.1 s.fz = true then none else (biD o q.1).bind fun d => some (d, q.2.1, q.2.2) := by
  simp only [ev]
  cases evOs cf es env s with
  | none => rfl
  | some q => obtain ⟨ds, en, s1⟩ := q; simp only [Option.bind_some]; cases biD o ds <;> rfl
theorem v_comp (own : List Nat) (tg : Tg) (kk : Ik) (fs : List Ex) : ev cf (.comp own tg kk es fs e) env s = (evOs cf es env s).bind fun q => (walk kk q.1).bind fun zs => if noOwn own q.2.1 = true then (turns (cTurn cf own tg fs e) zs [] q.2.1 q.2.2).bind fun r => some (.lst r.1, backE own q.2.1 r.2.1, r.2.2) else none := by
  simp only [ev]
  cases evOs cf es env s with
  | none => rfl
  | some q =>
    obtain ⟨ds, en, s1⟩ := q
    simp only [Option.bind_some]
    cases walk kk ds with
    | none => rfl
    | some zs =>
      simp only [Option.bind_some]
      split
      · show (match turns (cTurn cf own tg fs e) zs [] en s1 with | some (ys, env', s) => some (D.lst ys, backE own en env', s) | none => none) = _
        cases turns (cTurn cf own tg fs e) zs [] en s1 <;> rfl
      · rfl
theorem o_nil' : evOs cf [] env s = some ([], env, s) := by simp only [evOs]
theorem o_bor : evOs cf (.bor i :: es) env s = (rd env i).bind fun _ => (evOs cf es env s).bind fun q => (rd q.2.1 i).bind fun d => some (d :: q.1, q.2.1, q.2.2) := by
  simp only [evOs]
  cases rd env i with
  | none => rfl
  | some d0 =>
    simp only [Option.bind_some]
    cases evOs cf es env s with
    | none => rfl
    | some q => obtain ⟨ds, en, s1⟩ := q; simp only [Option.bind_some]; cases rd en i <;> rfl
theorem o_ex (h : nob e = true) : evOs cf (e :: es) env s = (ev cf e env s).bind fun q => (evOs cf es q.2.1 q.2.2).bind fun r => some (q.1 :: r.1, r.2.1, r.2.2) := by
  have h' : evOs cf (e :: es) env s = (match ev cf e env s with
          | some (d, env, s) => match evOs cf es env s with
            | some (ds, env, s) => some (d :: ds, env, s)
            | none => none
          | none => none) := by cases e <;> first | rfl | simp [nob] at h
  rw [h']
  cases ev cf e env s with
  | none => rfl
  | some q => obtain ⟨d, en, s1⟩ := q; simp only [Option.bind_some]; cases evOs cf es en s1 <;> rfl
theorem e_nil : evs cf [] env s = some ([], env, s) := by simp only [evs]
theorem e_star : evs cf (.star xs :: es) env s = (evOs cf xs env s).bind fun q => (match q.1 with | [x] => D.items x | _ => none).bind fun ys => (evs cf es q.2.1 q.2.2).bind fun r => some (ys ++ r.1, r.2.1, r.2.2) := by
  simp only [evs]
  cases evOs cf xs env s with
  | none => rfl
  | some q =>
    obtain ⟨ds, en, s1⟩ := q
    match ds with
    | [] => rfl
    | [x] =>
      simp only [Option.bind_some]
      cases D.items x with
      | none => rfl
      | some ys => simp only [Option.bind_some]; cases evs cf es en s1 <;> rfl
    | _ :: _ :: _ => rfl
def nst : Ex → Bool
  | .star _ => false
  | _ => true
theorem e_ex (h : nst e = true) : evs cf (e :: es) env s = (ev cf e env s).bind fun q => (evs cf es q.2.1 q.2.2).bind fun r => some (q.1 :: r.1, r.2.1, r.2.2) := by
  have h' : evs cf (e :: es) env s = (match ev cf e env s with
          | some (d, env, s) => match evs cf es env s with
            | some (ds, env, s) => some (d :: ds, env, s)
            | none => none
          | none => none) := by cases e <;> first | rfl | simp [nst] at h
  rw [h']
  cases ev cf e env s with
  | none => rfl
  | some q => obtain ⟨d, en, s1⟩ := q; simp only [Option.bind_some]; cases evs cf es en s1 <;> rfl
theorem t_nil' : tests cf [] env s = some (true, env, s) := by simp only [tests]
theorem t_ex : tests cf (e :: es) env s = (ev cf e env s).bind fun q => (asB q.1).bind fun b => if b = true then tests cf es q.2.1 q.2.2 else some (false, q.2.1, q.2.2) := by
  simp only [tests]
  cases ev cf e env s with
  | none => rfl
  | some q =>
    obtain ⟨d, en, s1⟩ := q
    cases d <;> try rfl
    rename_i b
    cases b <;> rfl
theorem c_turn (own : List Nat) (tg : Tg) (fs : List Ex) (x : D) : cTurn cf own tg fs e x env s = (bindT tg x (wipeE own env)).bind fun en => (tests cf fs en s).bind fun q => if q.1 = true then (ev cf e q.2.1 q.2.2).bind fun r => some (some r.1, r.2.1, r.2.2) else some (none, q.2.1, q.2.2) := by
  unfold cTurn
  cases bindT tg x (wipeE own env) with
  | none => rfl
  | some en =>
    simp only [Option.bind_some]
    cases tests cf fs en s with
    | none => rfl
    | some q =>
      obtain ⟨b, en2, s2⟩ := q
      cases b with
      | false => rfl
      | true => simp only [Option.bind_some]; cases ev cf e en2 s2 <;> rfl
end
section
variable (ff : Bool) (F : Nat) (e c : Ex) (es : List Ex) (env : Env) (s : Sr) (i j k : Nat) (r t f b : List Sm) (st : Sm)
def outK (g : Env → Sr → Option Out) : Out → Option Out
  | .nx env s => g env s
  | o => some o
theorem s_nil' : evSs cf ff F [] env s = some (.nx env s) := by simp only [evSs]
theorem s_st : evSs cf ff F (st :: r) env s = (evS cf ff F st env s).bind (outK fun en s1 => evSs cf ff F r en s1) := by
  simp only [evSs]
  cases evS cf ff F st env s with
  | none => rfl
  | some o => cases o <;> rfl
theorem k_nx (g : Env → Sr → Option Out) : outK g (.nx env s) = g env s := rfl
theorem k_rt (g : Env → Sr → Option Out) (d : D) : outK g (.rt d s) = some (.rt d s) := rfl
theorem k_bk (g : Env → Sr → Option Out) : outK g (.bk env s) = some (.bk env s) := rfl
theorem k_ct (g : Env → Sr → Option Out) : outK g (.ct env s) = some (.ct env s) := rfl
theorem m_asg : evS cf ff F (.asg i e) env s = (ev cf e env s).bind fun q => some (.nx (q.2.1.set i (some (false, q.1))) q.2.2) := by simp only [evS]; cases ev cf e env s <;> rfl
theorem m_asgO : evS cf ff F (.asgO i e) env s = if fr e = true then (ev cf e env s).bind fun q => some (.nx (q.2.1.set i (some (true, q.1))) q.2.2) else none := by simp only [evS]; split; (cases ev cf e env s <;> rfl); rfl
theorem m_asgT (tg : Tg) : evS cf ff F (.asgT tg e) env s = (ev cf e env s).bind fun q => (bindT tg q.1 q.2.1).bind fun en => some (.nx en q.2.2) := by
  simp only [evS]
  cases ev cf e env s with
  | none => rfl
  | some q => obtain ⟨d, en, s1⟩ := q; simp only [Option.bind_some]; cases bindT tg d en <;> rfl
theorem m_par (own : List Bool) (is : List Nat) : evS cf ff F (.par own is es) env s = (evs cf es env s).bind fun q => (putsE own is es q.1 q.2.1).bind fun en => some (.nx en q.2.2) := by
  simp only [evS]
  cases evs cf es env s with
  | none => rfl
  | some q => obtain ⟨d, en, s1⟩ := q; simp only [Option.bind_some]; cases putsE own is es d en <;> rfl
def ownAt (env : Env) (i : Nat) : Option D := match env[i]? with | some (some (true, c)) => some c | _ => none
theorem m_set (x : Ex) : evS cf ff F (.set i [x] e) env s = (ev cf e env s).bind fun q => (rd q.2.1 i).bind fun _ => (evOs cf [x] q.2.1 q.2.2).bind fun r => (ownAt r.2.1 i).bind fun c => (setD c (r.1.getD 0 .non) q.1).bind fun c' => some (.nx (r.2.1.set i (some (true, c'))) r.2.2) := by
  simp only [evS]
  cases ev cf e env s with
  | none => rfl
  | some q =>
    obtain ⟨d, en, s1⟩ := q
    simp only [Option.bind_some]
    cases rd en i with
    | none => rfl
    | some dd =>
      simp only [Option.bind_some]
      cases h3 : evOs cf [x] en s1 with
      | none => rfl
      | some q =>
        obtain ⟨ks, en2, s2⟩ := q
        obtain ⟨kd, rfl⟩ := evOs_one h3
        simp only [Option.bind_some]
        unfold ownAt
        cases en2[i]? with
        | none => rfl
        | some w =>
          cases w with
          | none => rfl
          | some w =>
            obtain ⟨fl, c⟩ := w
            cases fl with
            | false => rfl
            | true =>
              simp only [Option.bind_some, List.getD_cons_zero]
              cases setD c kd d <;> rfl
theorem m_app : evS cf ff F (.app i e) env s = if ownL env i = true then (ev cf e env s).bind fun q => (ownAt q.2.1 i).bind fun c => (match c with | .lst xs => if xs.length < szLine then some (Out.nx (q.2.1.set i (some (true, .lst (xs ++ [q.1])))) q.2.2) else none | _ => none) else none := by
  simp only [evS]
  split
  · cases ev cf e env s with
    | none => rfl
    | some q =>
      obtain ⟨d, en, s1⟩ := q
      simp only [Option.bind_some]
      unfold ownAt
      cases en[i]? with
      | none => rfl
      | some w =>
        cases w with
        | none => rfl
        | some w =>
          obtain ⟨fl, c⟩ := w
          cases fl with
          | false => rfl
          | true => cases c <;> rfl
  · rfl
theorem m_expr : evS cf ff F (.expr e) env s = (ev cf e env s).bind fun q => some (.nx q.2.1 q.2.2) := by simp only [evS]; cases ev cf e env s <;> rfl
theorem m_ite : evS cf ff F (.ite c t f) env s = (ev cf c env s).bind fun q => (asB q.1).bind fun x => if x = true then evSs cf ff F t q.2.1 q.2.2 else evSs cf ff F f q.2.1 q.2.2 := by
  simp only [evS]
  cases ev cf c env s with
  | none => rfl
  | some q => obtain ⟨d, _, _⟩ := q; cases d <;> rfl
def forB (tg : Tg) (b : List Sm) : D → Env → Sr → Option Out := fun x env s => (bindT tg x env).bind fun en => evSs cf ff F b en s
theorem m_for (tg : Tg) (kk : Ik) : evS cf ff F (.for tg kk es b) env s = (evOs cf es env s).bind fun q => (walk kk q.1).bind fun xs => forT (forB cf ff F tg b) xs q.2.1 q.2.2 := by
  have e : (fun x env s => match bindT tg x env with | some env => evSs cf ff F b env s | none => none) = forB cf ff F tg b := by
    funext x en s1
    unfold forB
    cases bindT tg x en <;> rfl
  rw [← e]
  simp only [evS]
  cases evOs cf es env s with
  | none => rfl
  | some q => obtain ⟨d, en, s1⟩ := q; simp only [Option.bind_some]; cases walk kk d <;> rfl
theorem m_whl : evS cf ff F (.whl c b) env s = whlT (fun en s1 => ev cf c en s1) (fun en s1 => evSs cf ff F b en s1) F env s := by simp only [evS]
theorem m_ret : evS cf ff F (.ret e) env s = if (ff && !fr e) = true then none else (ev cf e env s).bind fun q => some (.rt q.1 q.2.2) := by simp only [evS]; split; rfl; (cases ev cf e env s <;> rfl)
theorem m_sput : evS cf ff F (.sput i k e) env s = (ev cf e env s).bind fun q => (asI q.1).bind fun n => (rdV q.2.1 i).bind fun d => if isSrc d then some (.nx q.2.1 (q.2.2.putF n k)) else none := by
  simp only [evS]
  cases ev cf e env s with
  | none => rfl
  | some q =>
    obtain ⟨d, en, s1⟩ := q
    cases d <;> try rfl
    simp only [Option.bind_some, asI]
    cases rdV en i with
    | none => rfl
    | some d => cases d <;> rfl
theorem m_sfill : evS cf ff F (.sfill i j) env s = if i = j ∨ env.length ≤ j then none else (rdV env i).bind fun d => if isSrc d then some (.nx (env.set j none) s.fill) else none := by
  simp only [evS]
  split
  · rfl
  · cases rdV env i with
    | none => rfl
    | some d => cases d <;> rfl
/-- loops -/
theorem f_nil' (g : D → Env → Sr → Option Out) : forT g [] env s = some (.nx env s) := rfl
theorem f_step {g : D → Env → Sr → Option Out} {x : D} {xs : List D} {env env' : Env} {s s' : Sr} (h : g x env s = some (.nx env' s')) : forT g (x :: xs) env s = forT g xs env' s' := by simp only [forT]; rw [h]
theorem f_ret {g : D → Env → Sr → Option Out} {x : D} {xs : List D} {env : Env} {s s' : Sr} {d : D} (h : g x env s = some (.rt d s')) : forT g (x :: xs) env s = some (.rt d s') := by simp only [forT]; rw [h]
theorem w_done {cc : Env → Sr → Option (D × Env × Sr)} {g : Env → Sr → Option Out} {n : Nat} {env env1 : Env} {s s1 : Sr} (h : cc env s = some (.bl false, env1, s1)) : whlT cc g (n + 1) env s = some (.nx env1 s1) := by simp only [whlT]; rw [h]
theorem w_step {cc : Env → Sr → Option (D × Env × Sr)} {g : Env → Sr → Option Out} {n : Nat} {env env1 env2 : Env} {s s1 s2 : Sr} (h : cc env s = some (.bl true, env1, s1)) (h2 : g env1 s1 = some (.nx env2 s2)) : whlT cc g (n + 1) env s = whlT cc g n env2 s2 := by simp only [whlT]; rw [h]; simp only [h2]
/-- a def's run -/
def outR (fresh : Bool) : Out → Option (D × Sr)
  | .rt d s => some (d, s)
  | .nx _ s => if fresh then none else some (.non, s)
  | _ => none
theorem run_f (fd : Fd) (ds : List D) : runF cf F fd ds s = if ds.length = fd.np then (evSs cf fd.fresh F fd.body (startE fd.ns ds) s).bind (outR fd.fresh) else none := by
  unfold runF
  split
  · cases evSs cf fd.fresh F fd.body (startE fd.ns ds) s with
    | none => rfl
    | some o => cases o <;> rfl
  · rfl
end
end Rf
end

section
set_option linter.all false
set_option autoImplicit false
set_option Elab.async false
namespace Rf
section
variable (cf : Cf) (es : List Ex) (env : Env) (s : Sr)
theorem o_var_ (i : Nat) : evOs cf ((.var i) :: es) env s = (ev cf (.var i) env s).bind fun q => (evOs cf es q.2.1 q.2.2).bind fun r => some (q.1 :: r.1, r.2.1, r.2.2) := o_ex cf _ _ _ _ rfl
theorem e_var_ (i : Nat) : evs cf ((.var i) :: es) env s = (ev cf (.var i) env s).bind fun q => (evs cf es q.2.1 q.2.2).bind fun r => some (q.1 :: r.1, r.2.1, r.2.2) := e_ex cf _ _ _ _ rfl
theorem o_mv_ (i : Nat) : evOs cf ((.mv i) :: es) env s = (ev cf (.mv i) env s).bind fun q => (evOs cf es q.2.1 q.2.2).bind fun r => some (q.1 :: r.1, r.2.1, r.2.2) := o_ex cf _ _ _ _ rfl
theorem e_mv_ (i : Nat) : evs cf ((.mv i) :: es) env s = (ev cf (.mv i) env s).bind fun q => (evs cf es q.2.1 q.2.2).bind fun r => some (q.1 :: r.1, r.2.1, r.2.2) := e_ex cf _ _ _ _ rfl
theorem o_rel_ (i : Nat) : evOs cf ((.rel i) :: es) env s = (ev cf (.rel i) env s).bind fun q => (evOs cf es q.2.1 q.2.2).bind fun r => some (q.1 :: r.1, r.2.1, r.2.2) := o_ex cf _ _ _ _ rfl
theorem e_rel_ (i : Nat) : evs cf ((.rel i) :: es) env s = (ev cf (.rel i) env s).bind fun q => (evs cf es q.2.1 q.2.2).bind fun r => some (q.1 :: r.1, r.2.1, r.2.2) := e_ex cf _ _ _ _ rfl
theorem o_int_ (n : Int) : evOs cf ((.int n) :: es) env s = (ev cf (.int n) env s).bind fun q => (evOs cf es q.2.1 q.2.2).bind fun r => some (q.1 :: r.1, r.2.1, r.2.2) := o_ex cf _ _ _ _ rfl
theorem e_int_ (n : Int) : evs cf ((.int n) :: es) env s = (ev cf (.int n) env s).bind fun q => (evs cf es q.2.1 q.2.2).bind fun r => some (q.1 :: r.1, r.2.1, r.2.2) := e_ex cf _ _ _ _ rfl
theorem o_bl_ (b : Bool) : evOs cf ((.bl b) :: es) env s = (ev cf (.bl b) env s).bind fun q => (evOs cf es q.2.1 q.2.2).bind fun r => some (q.1 :: r.1, r.2.1, r.2.2) := o_ex cf _ _ _ _ rfl
theorem e_bl_ (b : Bool) : evs cf ((.bl b) :: es) env s = (ev cf (.bl b) env s).bind fun q => (evs cf es q.2.1 q.2.2).bind fun r => some (q.1 :: r.1, r.2.1, r.2.2) := e_ex cf _ _ _ _ rfl
theorem o_str_ (cs : List Nat) : evOs cf ((.str cs) :: es) env s = (ev cf (.str cs) env s).bind fun q => (evOs cf es q.2.1 q.2.2).bind fun r => some (q.1 :: r.1, r.2.1, r.2.2) := o_ex cf _ _ _ _ rfl
theorem e_str_ (cs : List Nat) : evs cf ((.str cs) :: es) env s = (ev cf (.str cs) env s).bind fun q => (evs cf es q.2.1 q.2.2).bind fun r => some (q.1 :: r.1, r.2.1, r.2.2) := e_ex cf _ _ _ _ rfl
theorem o_non_  : evOs cf (.non :: es) env s = (ev cf .non env s).bind fun q => (evOs cf es q.2.1 q.2.2).bind fun r => some (q.1 :: r.1, r.2.1, r.2.2) := o_ex cf _ _ _ _ rfl
theorem e_non_  : evs cf (.non :: es) env s = (ev cf .non env s).bind fun q => (evs cf es q.2.1 q.2.2).bind fun r => some (q.1 :: r.1, r.2.1, r.2.2) := e_ex cf _ _ _ _ rfl
theorem o_not_ (a : Ex) : evOs cf ((.not a) :: es) env s = (ev cf (.not a) env s).bind fun q => (evOs cf es q.2.1 q.2.2).bind fun r => some (q.1 :: r.1, r.2.1, r.2.2) := o_ex cf _ _ _ _ rfl
theorem e_not_ (a : Ex) : evs cf ((.not a) :: es) env s = (ev cf (.not a) env s).bind fun q => (evs cf es q.2.1 q.2.2).bind fun r => some (q.1 :: r.1, r.2.1, r.2.2) := e_ex cf _ _ _ _ rfl
theorem o_and_ (a b : Ex) : evOs cf ((.and a b) :: es) env s = (ev cf (.and a b) env s).bind fun q => (evOs cf es q.2.1 q.2.2).bind fun r => some (q.1 :: r.1, r.2.1, r.2.2) := o_ex cf _ _ _ _ rfl
theorem e_and_ (a b : Ex) : evs cf ((.and a b) :: es) env s = (ev cf (.and a b) env s).bind fun q => (evs cf es q.2.1 q.2.2).bind fun r => some (q.1 :: r.1, r.2.1, r.2.2) := e_ex cf _ _ _ _ rfl
theorem o_or_ (a b : Ex) : evOs cf ((.or a b) :: es) env s = (ev cf (.or a b) env s).bind fun q => (evOs cf es q.2.1 q.2.2).bind fun r => some (q.1 :: r.1, r.2.1, r.2.2) := o_ex cf _ _ _ _ rfl
theorem e_or_ (a b : Ex) : evs cf ((.or a b) :: es) env s = (ev cf (.or a b) env s).bind fun q => (evs cf es q.2.1 q.2.2).bind fun r => some (q.1 :: r.1, r.2.1, r.2.2) := e_ex cf _ _ _ _ rfl
theorem o_ife_ (c a b : Ex) : evOs cf ((.ife c a b) :: es) env s = (ev cf (.ife c a b) env s).bind fun q => (evOs cf es q.2.1 q.2.2).bind fun r => some (q.1 :: r.1, r.2.1, r.2.2) := o_ex cf _ _ _ _ rfl
theorem e_ife_ (c a b : Ex) : evs cf ((.ife c a b) :: es) env s = (ev cf (.ife c a b) env s).bind fun q => (evs cf es q.2.1 q.2.2).bind fun r => some (q.1 :: r.1, r.2.1, r.2.2) := e_ex cf _ _ _ _ rfl
theorem o_tup_ (l : List Ex) : evOs cf ((.tup l) :: es) env s = (ev cf (.tup l) env s).bind fun q => (evOs cf es q.2.1 q.2.2).bind fun r => some (q.1 :: r.1, r.2.1, r.2.2) := o_ex cf _ _ _ _ rfl
theorem e_tup_ (l : List Ex) : evs cf ((.tup l) :: es) env s = (ev cf (.tup l) env s).bind fun q => (evs cf es q.2.1 q.2.2).bind fun r => some (q.1 :: r.1, r.2.1, r.2.2) := e_ex cf _ _ _ _ rfl
theorem o_lst_ (l : List Ex) : evOs cf ((.lst l) :: es) env s = (ev cf (.lst l) env s).bind fun q => (evOs cf es q.2.1 q.2.2).bind fun r => some (q.1 :: r.1, r.2.1, r.2.2) := o_ex cf _ _ _ _ rfl
theorem e_lst_ (l : List Ex) : evs cf ((.lst l) :: es) env s = (ev cf (.lst l) env s).bind fun q => (evs cf es q.2.1 q.2.2).bind fun r => some (q.1 :: r.1, r.2.1, r.2.2) := e_ex cf _ _ _ _ rfl
theorem o_dnew_ (t : Bool) : evOs cf ((.dnew t) :: es) env s = (ev cf (.dnew t) env s).bind fun q => (evOs cf es q.2.1 q.2.2).bind fun r => some (q.1 :: r.1, r.2.1, r.2.2) := o_ex cf _ _ _ _ rfl
theorem e_dnew_ (t : Bool) : evs cf ((.dnew t) :: es) env s = (ev cf (.dnew t) env s).bind fun q => (evs cf es q.2.1 q.2.2).bind fun r => some (q.1 :: r.1, r.2.1, r.2.2) := e_ex cf _ _ _ _ rfl
theorem o_call_ (f : Nat) (fr : Bool) (l : List Ex) : evOs cf ((.call f fr l) :: es) env s = (ev cf (.call f fr l) env s).bind fun q => (evOs cf es q.2.1 q.2.2).bind fun r => some (q.1 :: r.1, r.2.1, r.2.2) := o_ex cf _ _ _ _ rfl
theorem e_call_ (f : Nat) (fr : Bool) (l : List Ex) : evs cf ((.call f fr l) :: es) env s = (ev cf (.call f fr l) env s).bind fun q => (evs cf es q.2.1 q.2.2).bind fun r => some (q.1 :: r.1, r.2.1, r.2.2) := e_ex cf _ _ _ _ rfl
theorem o_bi_ (b : Bi) (l : List Ex) : evOs cf ((.bi b l) :: es) env s = (ev cf (.bi b l) env s).bind fun q => (evOs cf es q.2.1 q.2.2).bind fun r => some (q.1 :: r.1, r.2.1, r.2.2) := o_ex cf _ _ _ _ rfl
theorem e_bi_ (b : Bi) (l : List Ex) : evs cf ((.bi b l) :: es) env s = (ev cf (.bi b l) env s).bind fun q => (evs cf es q.2.1 q.2.2).bind fun r => some (q.1 :: r.1, r.2.1, r.2.2) := e_ex cf _ _ _ _ rfl
theorem o_pop_ (i : Nat) : evOs cf ((.pop i) :: es) env s = (ev cf (.pop i) env s).bind fun q => (evOs cf es q.2.1 q.2.2).bind fun r => some (q.1 :: r.1, r.2.1, r.2.2) := o_ex cf _ _ _ _ rfl
theorem e_pop_ (i : Nat) : evs cf ((.pop i) :: es) env s = (ev cf (.pop i) env s).bind fun q => (evs cf es q.2.1 q.2.2).bind fun r => some (q.1 :: r.1, r.2.1, r.2.2) := e_ex cf _ _ _ _ rfl
theorem o_popAt_ (i : Nat) (l : List Ex) : evOs cf ((.popAt i l) :: es) env s = (ev cf (.popAt i l) env s).bind fun q => (evOs cf es q.2.1 q.2.2).bind fun r => some (q.1 :: r.1, r.2.1, r.2.2) := o_ex cf _ _ _ _ rfl
theorem e_popAt_ (i : Nat) (l : List Ex) : evs cf ((.popAt i l) :: es) env s = (ev cf (.popAt i l) env s).bind fun q => (evs cf es q.2.1 q.2.2).bind fun r => some (q.1 :: r.1, r.2.1, r.2.2) := e_ex cf _ _ _ _ rfl
theorem o_sget_ (i k : Nat) : evOs cf ((.sget i k) :: es) env s = (ev cf (.sget i k) env s).bind fun q => (evOs cf es q.2.1 q.2.2).bind fun r => some (q.1 :: r.1, r.2.1, r.2.2) := o_ex cf _ _ _ _ rfl
theorem e_sget_ (i k : Nat) : evs cf ((.sget i k) :: es) env s = (ev cf (.sget i k) env s).bind fun q => (evs cf es q.2.1 q.2.2).bind fun r => some (q.1 :: r.1, r.2.1, r.2.2) := e_ex cf _ _ _ _ rfl
theorem o_comp_ (own : List Nat) (tg : Tg) (kk : Ik) (l fs : List Ex) (e : Ex) : evOs cf ((.comp own tg kk l fs e) :: es) env s = (ev cf (.comp own tg kk l fs e) env s).bind fun q => (evOs cf es q.2.1 q.2.2).bind fun r => some (q.1 :: r.1, r.2.1, r.2.2) := o_ex cf _ _ _ _ rfl
theorem e_comp_ (own : List Nat) (tg : Tg) (kk : Ik) (l fs : List Ex) (e : Ex) : evs cf ((.comp own tg kk l fs e) :: es) env s = (ev cf (.comp own tg kk l fs e) env s).bind fun q => (evs cf es q.2.1 q.2.2).bind fun r => some (q.1 :: r.1, r.2.1, r.2.2) := e_ex cf _ _ _ _ rfl
theorem e_bor_ (i : Nat) : evs cf (.bor i :: es) env s = (ev cf (.bor i) env s).bind fun q => (evs cf es q.2.1 q.2.2).bind fun r => some (q.1 :: r.1, r.2.1, r.2.2) := e_ex cf _ _ _ _ rfl
end
theorem b_add_ (a b : Int) : biD (.bin .add) [.int a, .int b] = some (.int (a + b)) := rfl
theorem b_addT_ (a b : List D) : biD (.bin .add) [.tup a, .tup b] = if a.length + b.length ≤ szLine then some (.tup (a ++ b)) else none := rfl
theorem b_addL_ (a b : List D) : biD (.bin .add) [.lst a, .lst b] = if a.length + b.length ≤ szLine then some (.lst (a ++ b)) else none := rfl
theorem b_sub_ (a b : Int) : biD (.bin .sub) [.int a, .int b] = some (.int (a - b)) := rfl
theorem b_mod_ (a b : Int) : biD (.bin .mod) [.int a, .int b] = if 0 < b then some (.int (a % b)) else none := rfl
theorem b_fdiv_ (a b : Int) : biD (.bin .fdiv) [.int a, .int b] = if 0 < b ∧ b < 1073741824 then some (.int (a / b)) else none := rfl
theorem b_mul_ (a b : Int) : biD (.bin .mul) [.int a, .int b] = if (-(2 ^ 64) < a ∧ a < 2 ^ 64) ∨ (-(2 ^ 64) < b ∧ b < 2 ^ 64) then some (.int (a * b)) else none := rfl
theorem b_cmp_ (o : Cop) (x y : D) : biD (.cmp o) [x, y] = (cmpD o x y).map .bl := rfl
theorem b_neg_ (a : Int) : biD .neg [.int a] = some (.int (-a)) := rfl
theorem b_idxL_ (l : List D) (i : Int) : biD .idx [.lst l, .int i] = (place l.length i).bind fun j => l[j]? := rfl
theorem b_idxT_ (l : List D) (i : Int) : biD .idx [.tup l, .int i] = (place l.length i).bind fun j => l[j]? := rfl
theorem b_idxD_ (t : Bool) (l : List (D × D)) (k : D) : biD .idx [.dct t l, k] = if keyOk t k then look k l else none := rfl
theorem b_slcTt_ (l : List D) (i : Int) : biD (.slc false true) [.tup l, .non, .int i] = some (.tup (cutL l none (some i))) := rfl
theorem b_slcTf_ (l : List D) (i : Int) : biD (.slc true false) [.tup l, .int i, .non] = some (.tup (cutL l (some i) none)) := rfl
theorem b_slcLt_ (l : List D) (i : Int) : biD (.slc false true) [.lst l, .non, .int i] = some (.lst (cutL l none (some i))) := rfl
theorem b_slcLf_ (l : List D) (i : Int) : biD (.slc true false) [.lst l, .int i, .non] = some (.lst (cutL l (some i) none)) := rfl
theorem b_revL_ (l : List D) : biD .rev [.lst l] = some (.lst l.reverse) := rfl
theorem b_lenL_ (l : List D) : biD .len [.lst l] = some (.int l.length) := rfl
theorem b_lenT_ (l : List D) : biD .len [.tup l] = some (.int l.length) := rfl
theorem b_abs_ (i : Int) : biD .abs [.int i] = some (.int (if i < 0 then -i else i)) := rfl
theorem b_toint_ (i : Int) : biD .toint [.int i] = some (.int i) := rfl
theorem b_totupL_ (l : List D) : biD .totup [.lst l] = some (.tup l) := rfl
theorem b_totupT_ (l : List D) : biD .totup [.tup l] = some (.tup l) := rfl
theorem b_tolstL_ (l : List D) : biD .tolst [.lst l] = some (.lst l) := rfl
theorem b_tolstT_ (l : List D) : biD .tolst [.tup l] = some (.lst l) := rfl
theorem b_repr_ (x : D) : biD .repr [x] = if D.shp x 50 && decide (D.rsz x ≤ 8388608) then some (.rep x) else none := rfl
theorem b_lr1_ (b : Int) : biD .lrange1 [.int b] = (rangeD 0 b 1).map .lst := rfl
theorem b_lr2_ (a b : Int) : biD .lrange2 [.int a, .int b] = (rangeD a b 1).map .lst := rfl
theorem b_lr3_ (a b c : Int) : biD .lrange3 [.int a, .int b, .int c] = (rangeD a b c).map .lst := rfl
theorem b_clt_ (a b : Int) : cmpD .lt (.int a) (.int b) = some (decide (a < b)) := rfl
theorem b_cle_ (a b : Int) : cmpD .le (.int a) (.int b) = some (decide (a ≤ b)) := rfl
theorem b_cgt_ (a b : Int) : cmpD .gt (.int a) (.int b) = some (decide (b < a)) := rfl
theorem b_cge_ (a b : Int) : cmpD .ge (.int a) (.int b) = some (decide (b ≤ a)) := rfl
theorem b_ceq_ (a b : D) : cmpD .eq a b = eqD a b := rfl
theorem b_cne_ (a b : D) : cmpD .ne a b = (eqD a b).map (!·) := rfl
theorem b_cin_ (a b : D) : cmpD .isin a b = inD a b := rfl
theorem b_cni_ (a b : D) : cmpD .notin a b = (inD a b).map (!·) := rfl
theorem b_badbin_ (o : Bop) (l : List D) (z : Bool) : badB (.bin o) l z = false := rfl
theorem b_badcmp_ (o : Cop) (l : List D) (z : Bool) : badB (.cmp o) l z = false := rfl
theorem b_wseqL_ (l : List D) : walk .seq [.lst l] = some l := rfl
theorem b_wseqT_ (l : List D) : walk .seq [.tup l] = some l := rfl
theorem b_wr1_ (b : Int) : walk .rng1 [.int b] = rangeD 0 b 1 := rfl
theorem b_wr2_ (a b : Int) : walk .rng2 [.int a, .int b] = rangeD a b 1 := rfl
theorem b_wr3_ (a b c : Int) : walk .rng3 [.int a, .int b, .int c] = rangeD a b c := rfl
theorem b_wenL_ (xs : List D) : walk .enum [.lst xs] = some (List.zipWith (fun (i : Nat) (x : D) => D.tup [.int (i : Int), x]) (List.range xs.length) xs) := rfl
theorem b_wenT_ (xs : List D) : walk .enum [.tup xs] = some (List.zipWith (fun (i : Nat) (x : D) => D.tup [.int (i : Int), x]) (List.range xs.length) xs) := rfl
theorem bad_neg_ (l : List D) (z : Bool) : badB .neg l z = false := rfl
theorem bad_idx_ (l : List D) (z : Bool) : badB .idx l z = false := rfl
theorem bad_rev_ (l : List D) (z : Bool) : badB .rev l z = false := rfl
theorem bad_cnt_ (l : List D) (z : Bool) : badB .cnt l z = false := rfl
theorem bad_len_ (l : List D) (z : Bool) : badB .len l z = false := rfl
theorem bad_sum_ (l : List D) (z : Bool) : badB .sum l z = false := rfl
theorem bad_max1_ (l : List D) (z : Bool) : badB .max1 l z = false := rfl
theorem bad_min1_ (l : List D) (z : Bool) : badB .min1 l z = false := rfl
theorem bad_max2_ (l : List D) (z : Bool) : badB .max2 l z = false := rfl
theorem bad_min2_ (l : List D) (z : Bool) : badB .min2 l z = false := rfl
theorem bad_abs_ (l : List D) (z : Bool) : badB .abs l z = false := rfl
theorem bad_toint_ (l : List D) (z : Bool) : badB .toint l z = false := rfl
theorem bad_totup_ (l : List D) (z : Bool) : badB .totup l z = false := rfl
theorem bad_tolst_ (l : List D) (z : Bool) : badB .tolst l z = false := rfl
theorem bad_sorted_ (l : List D) (z : Bool) : badB .sorted l z = false := rfl
theorem bad_repr_ (l : List D) (z : Bool) : badB .repr l z = false := rfl
theorem bad_mint_ (l : List D) (z : Bool) : badB .mint l z = false := rfl
theorem bad_any_ (l : List D) (z : Bool) : badB .any l z = false := rfl
theorem bad_all_ (l : List D) (z : Bool) : badB .all l z = false := rfl
theorem bad_lrange1_ (l : List D) (z : Bool) : badB .lrange1 l z = false := rfl
theorem bad_lrange2_ (l : List D) (z : Bool) : badB .lrange2 l z = false := rfl
theorem bad_lrange3_ (l : List D) (z : Bool) : badB .lrange3 l z = false := rfl
theorem bad_slc_ (a b : Bool) (l : List D) (z : Bool) : badB (.slc a b) l z = false := rfl
theorem bad_dict_ (a : Bool) (l : List D) (z : Bool) : badB (.dict a) l z = false := rfl
theorem bad_ixL_ (x : List D) (l : List D) (z : Bool) : badB .ixof (.lst x :: l) z = false := rfl
theorem bad_ixT_ (x : List D) (l : List D) (z : Bool) : badB .ixof (.tup x :: l) z = !z := rfl
theorem p20 : place 2 0 = some 0 := rfl
theorem p21 : place 2 1 = some 1 := rfl
theorem p10 : place 1 0 = some 0 := rfl
theorem p30 : place 3 0 = some 0 := rfl
theorem p31 : place 3 1 = some 1 := rfl
theorem p32 : place 3 2 = some 2 := rfl
theorem rd_ (env : Env) (i : Nat) (f : Bool) (d : D) (h : env[i]? = some (some (f, d))) : rd env i = some d := by unfold rd; rw [h]
theorem rdV_ (env : Env) (i : Nat) (d : D) (h : env[i]? = some (some (false, d))) : rdV env i = some d := by unfold rdV; rw [h]
theorem rd0_ (f : Bool) (d : D) (r : Env) : rd (some (f, d) :: r) 0 = some d := rfl
theorem rv0_ (d : D) (r : Env) : rdV (some (false, d) :: r) 0 = some d := rfl
theorem ro0_ (d : D) (r : Env) : ownAt (some (true, d) :: r) 0 = some d := rfl
theorem rl0_ (d : List D) (r : Env) : ownL (some (true, .lst d) :: r) 0 = true := rfl
theorem rd1_ (x0 : Option (Bool × D)) (f : Bool) (d : D) (r : Env) : rd (x0 :: some (f, d) :: r) 1 = some d := rfl
theorem rv1_ (x0 : Option (Bool × D)) (d : D) (r : Env) : rdV (x0 :: some (false, d) :: r) 1 = some d := rfl
theorem ro1_ (x0 : Option (Bool × D)) (d : D) (r : Env) : ownAt (x0 :: some (true, d) :: r) 1 = some d := rfl
theorem rl1_ (x0 : Option (Bool × D)) (d : List D) (r : Env) : ownL (x0 :: some (true, .lst d) :: r) 1 = true := rfl
theorem rd2_ (x0 x1 : Option (Bool × D)) (f : Bool) (d : D) (r : Env) : rd (x0 :: x1 :: some (f, d) :: r) 2 = some d := rfl
theorem rv2_ (x0 x1 : Option (Bool × D)) (d : D) (r : Env) : rdV (x0 :: x1 :: some (false, d) :: r) 2 = some d := rfl
theorem ro2_ (x0 x1 : Option (Bool × D)) (d : D) (r : Env) : ownAt (x0 :: x1 :: some (true, d) :: r) 2 = some d := rfl
theorem rl2_ (x0 x1 : Option (Bool × D)) (d : List D) (r : Env) : ownL (x0 :: x1 :: some (true, .lst d) :: r) 2 = true := rfl
theorem rd3_ (x0 x1 x2 : Option (Bool × D)) (f : Bool) (d : D) (r : Env) : rd (x0 :: x1 :: x2 :: some (f, d) :: r) 3 = some d := rfl
theorem rv3_ (x0 x1 x2 : Option (Bool × D)) (d : D) (r : Env) : rdV (x0 :: x1 :: x2 :: some (false, d) :: r) 3 = some d := rfl
theorem ro3_ (x0 x1 x2 : Option (Bool × D)) (d : D) (r : Env) : ownAt (x0 :: x1 :: x2 :: some (true, d) :: r) 3 = some d := rfl
theorem rl3_ (x0 x1 x2 : Option (Bool × D)) (d : List D) (r : Env) : ownL (x0 :: x1 :: x2 :: some (true, .lst d) :: r) 3 = true := rfl
theorem rd4_ (x0 x1 x2 x3 : Option (Bool × D)) (f : Bool) (d : D) (r : Env) : rd (x0 :: x1 :: x2 :: x3 :: some (f, d) :: r) 4 = some d := rfl
theorem rv4_ (x0 x1 x2 x3 : Option (Bool × D)) (d : D) (r : Env) : rdV (x0 :: x1 :: x2 :: x3 :: some (false, d) :: r) 4 = some d := rfl
theorem ro4_ (x0 x1 x2 x3 : Option (Bool × D)) (d : D) (r : Env) : ownAt (x0 :: x1 :: x2 :: x3 :: some (true, d) :: r) 4 = some d := rfl
theorem rl4_ (x0 x1 x2 x3 : Option (Bool × D)) (d : List D) (r : Env) : ownL (x0 :: x1 :: x2 :: x3 :: some (true, .lst d) :: r) 4 = true := rfl
theorem rd5_ (x0 x1 x2 x3 x4 : Option (Bool × D)) (f : Bool) (d : D) (r : Env) : rd (x0 :: x1 :: x2 :: x3 :: x4 :: some (f, d) :: r) 5 = some d := rfl
theorem rv5_ (x0 x1 x2 x3 x4 : Option (Bool × D)) (d : D) (r : Env) : rdV (x0 :: x1 :: x2 :: x3 :: x4 :: some (false, d) :: r) 5 = some d := rfl
theorem ro5_ (x0 x1 x2 x3 x4 : Option (Bool × D)) (d : D) (r : Env) : ownAt (x0 :: x1 :: x2 :: x3 :: x4 :: some (true, d) :: r) 5 = some d := rfl
theorem rl5_ (x0 x1 x2 x3 x4 : Option (Bool × D)) (d : List D) (r : Env) : ownL (x0 :: x1 :: x2 :: x3 :: x4 :: some (true, .lst d) :: r) 5 = true := rfl
theorem rd6_ (x0 x1 x2 x3 x4 x5 : Option (Bool × D)) (f : Bool) (d : D) (r : Env) : rd (x0 :: x1 :: x2 :: x3 :: x4 :: x5 :: some (f, d) :: r) 6 = some d := rfl
theorem rv6_ (x0 x1 x2 x3 x4 x5 : Option (Bool × D)) (d : D) (r : Env) : rdV (x0 :: x1 :: x2 :: x3 :: x4 :: x5 :: some (false, d) :: r) 6 = some d := rfl
theorem ro6_ (x0 x1 x2 x3 x4 x5 : Option (Bool × D)) (d : D) (r : Env) : ownAt (x0 :: x1 :: x2 :: x3 :: x4 :: x5 :: some (true, d) :: r) 6 = some d := rfl
theorem rl6_ (x0 x1 x2 x3 x4 x5 : Option (Bool × D)) (d : List D) (r : Env) : ownL (x0 :: x1 :: x2 :: x3 :: x4 :: x5 :: some (true, .lst d) :: r) 6 = true := rfl
theorem rd7_ (x0 x1 x2 x3 x4 x5 x6 : Option (Bool × D)) (f : Bool) (d : D) (r : Env) : rd (x0 :: x1 :: x2 :: x3 :: x4 :: x5 :: x6 :: some (f, d) :: r) 7 = some d := rfl
theorem rv7_ (x0 x1 x2 x3 x4 x5 x6 : Option (Bool × D)) (d : D) (r : Env) : rdV (x0 :: x1 :: x2 :: x3 :: x4 :: x5 :: x6 :: some (false, d) :: r) 7 = some d := rfl
theorem ro7_ (x0 x1 x2 x3 x4 x5 x6 : Option (Bool × D)) (d : D) (r : Env) : ownAt (x0 :: x1 :: x2 :: x3 :: x4 :: x5 :: x6 :: some (true, d) :: r) 7 = some d := rfl
theorem rl7_ (x0 x1 x2 x3 x4 x5 x6 : Option (Bool × D)) (d : List D) (r : Env) : ownL (x0 :: x1 :: x2 :: x3 :: x4 :: x5 :: x6 :: some (true, .lst d) :: r) 7 = true := rfl
theorem rd8_ (x0 x1 x2 x3 x4 x5 x6 x7 : Option (Bool × D)) (f : Bool) (d : D) (r : Env) : rd (x0 :: x1 :: x2 :: x3 :: x4 :: x5 :: x6 :: x7 :: some (f, d) :: r) 8 = some d := rfl
theorem rv8_ (x0 x1 x2 x3 x4 x5 x6 x7 : Option (Bool × D)) (d : D) (r : Env) : rdV (x0 :: x1 :: x2 :: x3 :: x4 :: x5 :: x6 :: x7 :: some (false, d) :: r) 8 = some d := rfl
theorem ro8_ (x0 x1 x2 x3 x4 x5 x6 x7 : Option (Bool × D)) (d : D) (r : Env) : ownAt (x0 :: x1 :: x2 :: x3 :: x4 :: x5 :: x6 :: x7 :: some (true, d) :: r) 8 = some d := rfl
theorem rl8_ (x0 x1 x2 x3 x4 x5 x6 x7 : Option (Bool × D)) (d : List D) (r : Env) : ownL (x0 :: x1 :: x2 :: x3 :: x4 :: x5 :: x6 :: x7 :: some (true, .lst d) :: r) 8 = true := rfl
theorem rd9_ (x0 x1 x2 x3 x4 x5 x6 x7 x8 : Option (Bool × D)) (f : Bool) (d : D) (r : Env) : rd (x0 :: x1 :: x2 :: x3 :: x4 :: x5 :: x6 :: x7 :: x8 :: some (f, d) :: r) 9 = some d := rfl
theorem rv9_ (x0 x1 x2 x3 x4 x5 x6 x7 x8 : Option (Bool × D)) (d : D) (r : Env) : rdV (x0 :: x1 :: x2 :: x3 :: x4 :: x5 :: x6 :: x7 :: x8 :: some (false, d) :: r) 9 = some d := rfl
theorem ro9_ (x0 x1 x2 x3 x4 x5 x6 x7 x8 : Option (Bool × D)) (d : D) (r : Env) : ownAt (x0 :: x1 :: x2 :: x3 :: x4 :: x5 :: x6 :: x7 :: x8 :: some (true, d) :: r) 9 = some d := rfl
theorem rl9_ (x0 x1 x2 x3 x4 x5 x6 x7 x8 : Option (Bool × D)) (d : List D) (r : Env) : ownL (x0 :: x1 :: x2 :: x3 :: x4 :: x5 :: x6 :: x7 :: x8 :: some (true, .lst d) :: r) 9 = true := rfl
theorem rd10_ (x0 x1 x2 x3 x4 x5 x6 x7 x8 x9 : Option (Bool × D)) (f : Bool) (d : D) (r : Env) : rd (x0 :: x1 :: x2 :: x3 :: x4 :: x5 :: x6 :: x7 :: x8 :: x9 :: some (f, d) :: r) 10 = some d := rfl
theorem rv10_ (x0 x1 x2 x3 x4 x5 x6 x7 x8 x9 : Option (Bool × D)) (d : D) (r : Env) : rdV (x0 :: x1 :: x2 :: x3 :: x4 :: x5 :: x6 :: x7 :: x8 :: x9 :: some (false, d) :: r) 10 = some d := rfl
theorem ro10_ (x0 x1 x2 x3 x4 x5 x6 x7 x8 x9 : Option (Bool × D)) (d : D) (r : Env) : ownAt (x0 :: x1 :: x2 :: x3 :: x4 :: x5 :: x6 :: x7 :: x8 :: x9 :: some (true, d) :: r) 10 = some d := rfl
theorem rl10_ (x0 x1 x2 x3 x4 x5 x6 x7 x8 x9 : Option (Bool × D)) (d : List D) (r : Env) : ownL (x0 :: x1 :: x2 :: x3 :: x4 :: x5 :: x6 :: x7 :: x8 :: x9 :: some (true, .lst d) :: r) 10 = true := rfl
theorem rd11_ (x0 x1 x2 x3 x4 x5 x6 x7 x8 x9 x10 : Option (Bool × D)) (f : Bool) (d : D) (r : Env) : rd (x0 :: x1 :: x2 :: x3 :: x4 :: x5 :: x6 :: x7 :: x8 :: x9 :: x10 :: some (f, d) :: r) 11 = some d := rfl
theorem rv11_ (x0 x1 x2 x3 x4 x5 x6 x7 x8 x9 x10 : Option (Bool × D)) (d : D) (r : Env) : rdV (x0 :: x1 :: x2 :: x3 :: x4 :: x5 :: x6 :: x7 :: x8 :: x9 :: x10 :: some (false, d) :: r) 11 = some d := rfl
theorem ro11_ (x0 x1 x2 x3 x4 x5 x6 x7 x8 x9 x10 : Option (Bool × D)) (d : D) (r : Env) : ownAt (x0 :: x1 :: x2 :: x3 :: x4 :: x5 :: x6 :: x7 :: x8 :: x9 :: x10 :: some (true, d) :: r) 11 = some d := rfl
theorem rl11_ (x0 x1 x2 x3 x4 x5 x6 x7 x8 x9 x10 : Option (Bool × D)) (d : List D) (r : Env) : ownL (x0 :: x1 :: x2 :: x3 :: x4 :: x5 :: x6 :: x7 :: x8 :: x9 :: x10 :: some (true, .lst d) :: r) 11 = true := rfl
theorem rd12_ (x0 x1 x2 x3 x4 x5 x6 x7 x8 x9 x10 x11 : Option (Bool × D)) (f : Bool) (d : D) (r : Env) : rd (x0 :: x1 :: x2 :: x3 :: x4 :: x5 :: x6 :: x7 :: x8 :: x9 :: x10 :: x11 :: some (f, d) :: r) 12 = some d := rfl
theorem rv12_ (x0 x1 x2 x3 x4 x5 x6 x7 x8 x9 x10 x11 : Option (Bool × D)) (d : D) (r : Env) : rdV (x0 :: x1 :: x2 :: x3 :: x4 :: x5 :: x6 :: x7 :: x8 :: x9 :: x10 :: x11 :: some (false, d) :: r) 12 = some d := rfl
theorem ro12_ (x0 x1 x2 x3 x4 x5 x6 x7 x8 x9 x10 x11 : Option (Bool × D)) (d : D) (r : Env) : ownAt (x0 :: x1 :: x2 :: x3 :: x4 :: x5 :: x6 :: x7 :: x8 :: x9 :: x10 :: x11 :: some (true, d) :: r) 12 = some d := rfl
theorem rl12_ (x0 x1 x2 x3 x4 x5 x6 x7 x8 x9 x10 x11 : Option (Bool × D)) (d : List D) (r : Env) : ownL (x0 :: x1 :: x2 :: x3 :: x4 :: x5 :: x6 :: x7 :: x8 :: x9 :: x10 :: x11 :: some (true, .lst d) :: r) 12 = true := rfl
theorem rd13_ (x0 x1 x2 x3 x4 x5 x6 x7 x8 x9 x10 x11 x12 : Option (Bool × D)) (f : Bool) (d : D) (r : Env) : rd (x0 :: x1 :: x2 :: x3 :: x4 :: x5 :: x6 :: x7 :: x8 :: x9 :: x10 :: x11 :: x12 :: some (f, d) :: r) 13 = some d := rfl
theorem rv13_ (x0 x1 x2 x3 x4 x5 x6 x7 x8 x9 x10 x11 x12 : Option (Bool × D)) (d : D) (r : Env) : rdV (x0 :: x1 :: x2 :: x3 :: x4 :: x5 :: x6 :: x7 :: x8 :: x9 :: x10 :: x11 :: x12 :: some (false, d) :: r) 13 = some d := rfl
theorem ro13_ (x0 x1 x2 x3 x4 x5 x6 x7 x8 x9 x10 x11 x12 : Option (Bool × D)) (d : D) (r : Env) : ownAt (x0 :: x1 :: x2 :: x3 :: x4 :: x5 :: x6 :: x7 :: x8 :: x9 :: x10 :: x11 :: x12 :: some (true, d) :: r) 13 = some d := rfl
theorem rl13_ (x0 x1 x2 x3 x4 x5 x6 x7 x8 x9 x10 x11 x12 : Option (Bool × D)) (d : List D) (r : Env) : ownL (x0 :: x1 :: x2 :: x3 :: x4 :: x5 :: x6 :: x7 :: x8 :: x9 :: x10 :: x11 :: x12 :: some (true, .lst d) :: r) 13 = true := rfl
theorem rd14_ (x0 x1 x2 x3 x4 x5 x6 x7 x8 x9 x10 x11 x12 x13 : Option (Bool × D)) (f : Bool) (d : D) (r : Env) : rd (x0 :: x1 :: x2 :: x3 :: x4 :: x5 :: x6 :: x7 :: x8 :: x9 :: x10 :: x11 :: x12 :: x13 :: some (f, d) :: r) 14 = some d := rfl
theorem rv14_ (x0 x1 x2 x3 x4 x5 x6 x7 x8 x9 x10 x11 x12 x13 : Option (Bool × D)) (d : D) (r : Env) : rdV (x0 :: x1 :: x2 :: x3 :: x4 :: x5 :: x6 :: x7 :: x8 :: x9 :: x10 :: x11 :: x12 :: x13 :: some (false, d) :: r) 14 = some d := rfl
theorem ro14_ (x0 x1 x2 x3 x4 x5 x6 x7 x8 x9 x10 x11 x12 x13 : Option (Bool × D)) (d : D) (r : Env) : ownAt (x0 :: x1 :: x2 :: x3 :: x4 :: x5 :: x6 :: x7 :: x8 :: x9 :: x10 :: x11 :: x12 :: x13 :: some (true, d) :: r) 14 = some d := rfl
theorem rl14_ (x0 x1 x2 x3 x4 x5 x6 x7 x8 x9 x10 x11 x12 x13 : Option (Bool × D)) (d : List D) (r : Env) : ownL (x0 :: x1 :: x2 :: x3 :: x4 :: x5 :: x6 :: x7 :: x8 :: x9 :: x10 :: x11 :: x12 :: x13 :: some (true, .lst d) :: r) 14 = true := rfl
theorem rd15_ (x0 x1 x2 x3 x4 x5 x6 x7 x8 x9 x10 x11 x12 x13 x14 : Option (Bool × D)) (f : Bool) (d : D) (r : Env) : rd (x0 :: x1 :: x2 :: x3 :: x4 :: x5 :: x6 :: x7 :: x8 :: x9 :: x10 :: x11 :: x12 :: x13 :: x14 :: some (f, d) :: r) 15 = some d := rfl
theorem rv15_ (x0 x1 x2 x3 x4 x5 x6 x7 x8 x9 x10 x11 x12 x13 x14 : Option (Bool × D)) (d : D) (r : Env) : rdV (x0 :: x1 :: x2 :: x3 :: x4 :: x5 :: x6 :: x7 :: x8 :: x9 :: x10 :: x11 :: x12 :: x13 :: x14 :: some (false, d) :: r) 15 = some d := rfl
theorem ro15_ (x0 x1 x2 x3 x4 x5 x6 x7 x8 x9 x10 x11 x12 x13 x14 : Option (Bool × D)) (d : D) (r : Env) : ownAt (x0 :: x1 :: x2 :: x3 :: x4 :: x5 :: x6 :: x7 :: x8 :: x9 :: x10 :: x11 :: x12 :: x13 :: x14 :: some (true, d) :: r) 15 = some d := rfl
theorem rl15_ (x0 x1 x2 x3 x4 x5 x6 x7 x8 x9 x10 x11 x12 x13 x14 : Option (Bool × D)) (d : List D) (r : Env) : ownL (x0 :: x1 :: x2 :: x3 :: x4 :: x5 :: x6 :: x7 :: x8 :: x9 :: x10 :: x11 :: x12 :: x13 :: x14 :: some (true, .lst d) :: r) 15 = true := rfl
theorem rd16_ (x0 x1 x2 x3 x4 x5 x6 x7 x8 x9 x10 x11 x12 x13 x14 x15 : Option (Bool × D)) (f : Bool) (d : D) (r : Env) : rd (x0 :: x1 :: x2 :: x3 :: x4 :: x5 :: x6 :: x7 :: x8 :: x9 :: x10 :: x11 :: x12 :: x13 :: x14 :: x15 :: some (f, d) :: r) 16 = some d := rfl
theorem rv16_ (x0 x1 x2 x3 x4 x5 x6 x7 x8 x9 x10 x11 x12 x13 x14 x15 : Option (Bool × D)) (d : D) (r : Env) : rdV (x0 :: x1 :: x2 :: x3 :: x4 :: x5 :: x6 :: x7 :: x8 :: x9 :: x10 :: x11 :: x12 :: x13 :: x14 :: x15 :: some (false, d) :: r) 16 = some d := rfl
theorem ro16_ (x0 x1 x2 x3 x4 x5 x6 x7 x8 x9 x10 x11 x12 x13 x14 x15 : Option (Bool × D)) (d : D) (r : Env) : ownAt (x0 :: x1 :: x2 :: x3 :: x4 :: x5 :: x6 :: x7 :: x8 :: x9 :: x10 :: x11 :: x12 :: x13 :: x14 :: x15 :: some (true, d) :: r) 16 = some d := rfl
theorem rl16_ (x0 x1 x2 x3 x4 x5 x6 x7 x8 x9 x10 x11 x12 x13 x14 x15 : Option (Bool × D)) (d : List D) (r : Env) : ownL (x0 :: x1 :: x2 :: x3 :: x4 :: x5 :: x6 :: x7 :: x8 :: x9 :: x10 :: x11 :: x12 :: x13 :: x14 :: x15 :: some (true, .lst d) :: r) 16 = true := rfl
theorem rd17_ (x0 x1 x2 x3 x4 x5 x6 x7 x8 x9 x10 x11 x12 x13 x14 x15 x16 : Option (Bool × D)) (f : Bool) (d : D) (r : Env) : rd (x0 :: x1 :: x2 :: x3 :: x4 :: x5 :: x6 :: x7 :: x8 :: x9 :: x10 :: x11 :: x12 :: x13 :: x14 :: x15 :: x16 :: some (f, d) :: r) 17 = some d := rfl
theorem rv17_ (x0 x1 x2 x3 x4 x5 x6 x7 x8 x9 x10 x11 x12 x13 x14 x15 x16 : Option (Bool × D)) (d : D) (r : Env) : rdV (x0 :: x1 :: x2 :: x3 :: x4 :: x5 :: x6 :: x7 :: x8 :: x9 :: x10 :: x11 :: x12 :: x13 :: x14 :: x15 :: x16 :: some (false, d) :: r) 17 = some d := rfl
theorem ro17_ (x0 x1 x2 x3 x4 x5 x6 x7 x8 x9 x10 x11 x12 x13 x14 x15 x16 : Option (Bool × D)) (d : D) (r : Env) : ownAt (x0 :: x1 :: x2 :: x3 :: x4 :: x5 :: x6 :: x7 :: x8 :: x9 :: x10 :: x11 :: x12 :: x13 :: x14 :: x15 :: x16 :: some (true, d) :: r) 17 = some d := rfl
theorem rl17_ (x0 x1 x2 x3 x4 x5 x6 x7 x8 x9 x10 x11 x12 x13 x14 x15 x16 : Option (Bool × D)) (d : List D) (r : Env) : ownL (x0 :: x1 :: x2 :: x3 :: x4 :: x5 :: x6 :: x7 :: x8 :: x9 :: x10 :: x11 :: x12 :: x13 :: x14 :: x15 :: x16 :: some (true, .lst d) :: r) 17 = true := rfl
theorem v_popAt {cf : Cf} {i : Nat} {x : Ex} {env env1 : Env} {s s1 : Sr} {ys zs : List D} {k : Int} {j : Nat} {d : D} (h0 : env[i]? = some (some (true, .lst ys))) (h1 : evOs cf [x] env s = some ([.int k], env1, s1)) (h2 : env1[i]? = some (some (true, .lst zs))) (h3 : place zs.length k = some j) (h4 : zs[j]? = some d) :
    ev cf (.popAt i [x]) env s = some (d, env1.set i (some (true, .lst (zs.eraseIdx j))), s1) := by
  simp only [ev]
  have : ownL env i = true := by unfold ownL; rw [h0]
  rw [if_pos this, h1]
  simp only [h2, h3, h4]
theorem tn_nil (f : D → Env → Sr → Option (Option D × Env × Sr)) (acc : List D) (env : Env) (s : Sr) : turns f [] acc env s = some (acc.reverse, env, s) := rfl
theorem tn_yes {f : D → Env → Sr → Option (Option D × Env × Sr)} {x d : D} {xs acc : List D} {env env1 : Env} {s s1 : Sr} (h : f x env s = some (some d, env1, s1)) : turns f (x :: xs) acc env s = turns f xs (d :: acc) env1 s1 := by simp only [turns]; rw [h]
theorem tn_no {f : D → Env → Sr → Option (Option D × Env × Sr)} {x : D} {xs acc : List D} {env env1 : Env} {s s1 : Sr} (h : f x env s = some (none, env1, s1)) : turns f (x :: xs) acc env s = turns f xs acc env1 s1 := by simp only [turns]; rw [h]
theorem b_ixof_ (x : D) (k : Int) : biD .ixof [x, .int k] = (D.items x).bind fun xs => (D.intsOf xs).bind fun ns => if k ∈ ns then some (.int (ns.idxOf k : Nat)) else none := rfl
def wC (cf : Cf) (c : Ex) : Env → Sr → Option (D × Env × Sr) := fun en s => ev cf c en s
def wB (cf : Cf) (ff : Bool) (F : Nat) (b : List Sm) : Env → Sr → Option Out := fun en s => evSs cf ff F b en s
theorem m_whl_ (cf : Cf) (ff : Bool) (F : Nat) (c : Ex) (b : List Sm) (env : Env) (s : Sr) : evS cf ff F (.whl c b) env s = whlT (wC cf c) (wB cf ff F b) F env s := m_whl cf ff F c env s b
theorem itemsL_ (l : List D) : D.items (.lst l) = some l := rfl
theorem itemsT_ (l : List D) : D.items (.tup l) = some l := rfl
end Rf
end

section
set_option linter.all false
set_option maxRecDepth 100000
namespace Toy
open PySem L2 Rf PyProof.Rows
theorem hu_ {X : Cx} (C : Cok X) : X.A.units + 1 < cLine := by have := C.units; omega
def top (i : Nat) : Stmt := PySem.Challenge.pw_ordersround_k76_whole_lists_evacuated.main.body.getD i (.Pass ⟨0, 0, 0, 0⟩)
def b_is_loose : List Sm := 
  [.ret (.and (.bi (.cmp .notin) [.tup [.var 1, .var 2], .bi .idx [.bor 0, .int 1]]) (.bi (.cmp .notin) [.tup [.var 2, .var 1], .bi .idx [.bor 0, .int 1]]))]
def d_is_loose : Fd := ⟨3, 3, false, b_is_loose⟩
abbrev n_is_loose : List Str := ["order", "a", "b"]
abbrev p_is_loose : List Str := ["order", "a", "b"]
def b_swapped : List Sm := 
  [.par [false, false] [3, 4] [.bi .idx [.bor 1, .bor 2], .bi .idx [.bor 1, .bi (.bin .add) [.bor 2, .int 1]]],
  .ret (.ife (.call 0 false [.var 0, .var 3, .var 4]) (.tup [.star [.bi (.slc false true) [.bor 1, .non, .var 2]], .var 4, .var 3, .star [.bi (.slc true false) [.bor 1, .bi (.bin .add) [.bor 2, .int 2], .non]]]) (.var 1))]
def d_swapped : Fd := ⟨3, 5, false, b_swapped⟩
abbrev n_swapped : List Str := ["order", "row", "i", "a", "b"]
abbrev p_swapped : List Str := ["order", "row", "i"]
def b_swapped_along : List Sm := 
  [.for (.nm 3) .seq [.var 2] [.asg 1 (.call 1 false [.var 0, .var 1, .var 3])],
  .ret (.var 1)]
def d_swapped_along : Fd := ⟨3, 4, false, b_swapped_along⟩
abbrev n_swapped_along : List Str := ["order", "row", "numbers", "i"]
abbrev p_swapped_along : List Str := ["order", "row", "numbers"]
def b_promotion_path : List Sm := 
  [.asg 2 (.bi (.slc false true) [.bor 1, .non, .int 1]),
  .for (.nm 3) .seq [.bi (.slc true false) [.bor 1, .int 1, .non]] [.ite (.bi (.cmp .isin) [.tup [.bi .idx [.bor 2, .bi .neg [.int 1]], .var 3], .bi .idx [.bor 0, .int 1]]) [.asg 2 (.tup [.star [.bor 2], .var 3])] []],
  .ret (.var 2)]
def d_promotion_path : Fd := ⟨2, 4, false, b_promotion_path⟩
abbrev n_promotion_path : List Str := ["order", "row", "path", "work"]
abbrev p_promotion_path : List Str := ["order", "row"]
def b_promoted : List Sm := 
  [.par [false, false] [4, 5] [.call 3 false [.var 0, .var 1], .tup []],
  .asg 2 (.int 0),
  .for (.nm 3) .seq [.bi (.slc true false) [.bor 1, .int 1, .non]] [.ite (.and (.bi (.cmp .lt) [.bi (.bin .add) [.bor 2, .int 1], .bi .len [.bor 4]]) (.bi (.cmp .eq) [.bor 3, .bi .idx [.bor 4, .bi (.bin .add) [.bor 2, .int 1]]])) [.asg 5 (.tup [.star [.bor 5], .bi .idx [.bor 4, .bor 2]]),
      .asg 2 (.bi (.bin .add) [.bor 2, .int 1])] [.asg 5 (.tup [.star [.bor 5], .var 3])]],
  .ret (.tup [.star [.bor 5], .bi .idx [.bor 4, .bi .neg [.int 1]]])]
def d_promoted : Fd := ⟨2, 6, false, b_promoted⟩
abbrev n_promoted : List Str := ["order", "row", "here", "work", "path", "found"]
abbrev p_promoted : List Str := ["order", "row"]
def b_demoted : List Sm := 
  [.ret (.call 2 false [.var 0, .var 1, .bi .lrange3 [.bi (.bin .sub) [.bi .idx [.bor 0, .int 0], .int 2], .bi .neg [.int 1], .bi .neg [.int 1]]])]
def d_demoted : Fd := ⟨2, 2, false, b_demoted⟩
abbrev n_demoted : List Str := ["order", "row"]
abbrev p_demoted : List Str := ["order", "row"]
def b_promoted_often : List Sm := 
  [.for (.nm 3) .rng1 [.bi .abs [.bor 2]] [.asg 1 (.ife (.bi (.cmp .gt) [.bor 2, .int 0]) (.call 4 false [.var 0, .var 1]) (.call 5 false [.var 0, .var 1]))],
  .ret (.var 1)]
def d_promoted_often : Fd := ⟨3, 4, false, b_promoted_often⟩
abbrev n_promoted_often : List Str := ["order", "row", "k", "lap"]
abbrev p_promoted_often : List Str := ["order", "row", "k"]
def b_evacuating_swaps : List Sm := 
  [.asgO 1 (.lst []),
  .for (.nm 2) .rng3 [.bi (.bin .sub) [.bor 0, .int 1], .int 0, .bi .neg [.int 1]] [.ext 1 [.bi .lrange1 [.bor 2]]],
  .ret (.bi .totup [.bor 1])]
def d_evacuating_swaps : Fd := ⟨1, 3, false, b_evacuating_swaps⟩
abbrev n_evacuating_swaps : List Str := ["n", "found", "many"]
abbrev p_evacuating_swaps : List Str := ["n"]
def b_swaps_from_below : List Sm := 
  [.ret (.bi .totup [.comp [1] (.nm 1) .seq [.call 7 false [.var 0]] [] (.bi (.bin .sub) [.bi (.bin .sub) [.bor 0, .int 2], .bor 1])])]
def d_swaps_from_below : Fd := ⟨1, 2, false, b_swaps_from_below⟩
abbrev n_swaps_from_below : List Str := ["n", "i"]
abbrev p_swaps_from_below : List Str := ["n"]
def b_evacuated : List Sm := 
  [.ret (.call 2 false [.var 0, .var 1, .call 7 false [.bi .idx [.bor 0, .int 0]]])]
def d_evacuated : Fd := ⟨2, 2, false, b_evacuated⟩
abbrev n_evacuated : List Str := ["order", "row"]
abbrev p_evacuated : List Str := ["order", "row"]
def b_evacuated_below : List Sm := 
  [.ret (.call 2 false [.var 0, .var 1, .call 8 false [.bi .idx [.bor 0, .int 0]]])]
def d_evacuated_below : Fd := ⟨2, 2, false, b_evacuated_below⟩
abbrev n_evacuated_below : List Str := ["order", "row"]
abbrev p_evacuated_below : List Str := ["order", "row"]
def b__law_pick : List Sm := 
  [.ite (.bi (.cmp .lt) [.bor 1, .int 2]) [.ret (.int 0)] [],
  .sfill 0 2,
  .asg 3 (.sget 0 0),
  .ite (.bi (.cmp .gt) [.bor 3, .int 1]) [.sput 0 0 (.bi (.bin .fdiv) [.bor 3, .bor 1]),
    .ret (.bi (.bin .mod) [.bi .toint [.bor 3], .bor 1])] [],
  .sput 0 2 (.bi (.bin .add) [.sget 0 2, .int 1]),
  .asg 4 (.sget 0 2),
  .asg 5 (.bi (.bin .mod) [.bi .toint [.bi (.bin .add) [.sget 0 1, .bi (.bin .mul) [.bor 4, .int 104729]]], .int 998244353]),
  .asg 5 (.bi (.bin .mod) [.bi .toint [.bi (.bin .add) [.bi (.bin .mul) [.bor 5, .bor 5], .bi (.bin .mul) [.bor 4, .int 17]]], .int 2147483647]),
  .ret (.bi (.bin .mod) [.bi .toint [.bi (.bin .fdiv) [.bor 5, .int 16]], .bor 1])]
def d__law_pick : Fd := ⟨2, 6, false, b__law_pick⟩
abbrev n__law_pick : List Str := ["source", "most", "cells", "others", "lap", "stirred"]
abbrev p__law_pick : List Str := ["source", "most"]
def b__law_of : List Sm := 
  [.ret (.bi .idx [.bor 1, .call 12 false [.var 0, .bi .len [.bor 1]]])]
def d__law_of : Fd := ⟨2, 2, false, b__law_of⟩
abbrev n__law_of : List Str := ["source", "some"]
abbrev p__law_of : List Str := ["source", "some"]
def b__law_mixed : List Sm := 
  [.asgO 2 (.bi .tolst [.bor 1]),
  .ret (.comp [3] (.nm 3) .rng1 [.bi .len [.bor 2]] [] (.popAt 2 [.call 12 false [.var 0, .bi .len [.bor 2]]]))]
def d__law_mixed : Fd := ⟨2, 4, true, b__law_mixed⟩
abbrev n__law_mixed : List Str := ["source", "things", "others", "lap"]
abbrev p__law_mixed : List Str := ["source", "things"]
def b__law_order : List Sm := 
  [.par [false, false] [6, 7] [.bi (.bin .add) [.int 1, .call 12 false [.var 0, .var 1]], .call 12 false [.var 0, .int 5]],
  .asg 2 (.call 14 true [.var 0, .bi .lrange1 [.bor 6]]),
  .asgO 3 (.bi (.dict false) [.comp [10] (.nm 10) .seq [.var 2] [] (.tup [.var 10, .lst []])]),
  .for (.tp [(.nm 8), (.nm 5)]) .enum [.var 2] [.for (.nm 9) .seq [.bi .rev [.bi (.slc false true) [.bor 2, .non, .var 8]]] [.ite (.and (.bi (.cmp .notin) [.bor 9, .bi .idx [.bor 3, .bor 5]]) (.bi (.cmp .lt) [.call 12 false [.var 0, .int 6], .bor 7])) [.set 3 [.bor 5] (.bi (.bin .add) [.bi (.bin .add) [.bi .idx [.bor 3, .bor 5], .lst [.var 9]], .comp [11] (.nm 11) .seq [.bi .idx [.bor 3, .bor 9]] [.bi (.cmp .notin) [.bor 11, .bi .idx [.bor 3, .bor 5]]] (.var 11)])] []]],
  .asg 4 (.lst []),
  .for (.nm 5) .seq [.var 2] [.asg 4 (.bi (.bin .add) [.bor 4, .comp [9] (.nm 9) .seq [.bi .idx [.bor 3, .bor 5]] [] (.tup [.var 9, .var 5])])],
  .ret (.tup [.tup [.var 6, .bi .totup [.bi .sorted [.bor 4]]], .bi .totup [.bor 2]])]
def d__law_order : Fd := ⟨2, 12, false, b__law_order⟩
abbrev n__law_order : List Str := ["source", "most", "row", "ahead", "pairs", "b", "n", "share", "k", "a", "work", "late"]
abbrev p__law_order : List Str := ["source", "most"]
def b__law_is_list : List Sm := 
  [.ret (.bi (.cmp .eq) [.comp [2] (.nm 2) .seq [.bi .idx [.bor 0, .int 1]] [.bi (.cmp .gt) [.bi .ixof [.var 1, .bi .idx [.bor 2, .int 0]], .bi .ixof [.var 1, .bi .idx [.bor 2, .int 1]]]] (.var 2), .lst []])]
def d__law_is_list : Fd := ⟨2, 3, false, b__law_is_list⟩
abbrev n__law_is_list : List Str := ["order", "row", "pair"]
abbrev p__law_is_list : List Str := ["order", "row"]
def b__law_swap : List Sm := 
  [.asg 3 (.bi (.bin .add) [.bi (.bin .add) [.bi (.slc false true) [.bor 1, .non, .var 2], .tup [.bi .idx [.bor 1, .bi (.bin .add) [.bor 2, .int 1]], .bi .idx [.bor 1, .bor 2]]], .bi (.slc true false) [.bor 1, .bi (.bin .add) [.bor 2, .int 2], .non]]),
  .ret (.ife (.call 16 false [.var 0, .var 3]) (.var 3) (.var 1))]
def d__law_swap : Fd := ⟨3, 4, false, b__law_swap⟩
abbrev n__law_swap : List Str := ["order", "row", "i", "late"]
abbrev p__law_swap : List Str := ["order", "row", "i"]
def b__law_along : List Sm := 
  [.for (.nm 3) .seq [.var 2] [.asg 1 (.call 17 false [.var 0, .var 1, .var 3])],
  .ret (.var 1)]
def d__law_along : Fd := ⟨3, 4, false, b__law_along⟩
abbrev n__law_along : List Str := ["order", "row", "numbers", "i"]
abbrev p__law_along : List Str := ["order", "row", "numbers"]
def b__law_some_list : List Sm := 
  [.asg 2 (.tup []),
  .whl (.bi (.cmp .lt) [.bi .len [.bor 2], .bi .idx [.bor 1, .int 0]]) [.asg 3 (.comp [4, 5] (.tp [(.nm 4), (.nm 5)]) .seq [.bi .idx [.bor 1, .int 1]] [.bi (.cmp .notin) [.bor 4, .bor 2]] (.var 5)),
    .asg 2 (.bi (.bin .add) [.bor 2, .tup [.call 13 false [.var 0, .comp [6] (.nm 6) .rng1 [.bi .idx [.bor 1, .int 0]] [.and (.bi (.cmp .notin) [.bor 6, .bor 2]) (.bi (.cmp .notin) [.bor 6, .bor 3])] (.var 6)]]])],
  .ret (.var 2)]
def d__law_some_list : Fd := ⟨2, 7, false, b__law_some_list⟩
abbrev n__law_some_list : List Str := ["source", "order", "row", "ahead", "a", "b", "work"]
abbrev p__law_some_list : List Str := ["source", "order"]
def b__law_evacuated : List Sm := 
  [.for (.nm 2) .rng3 [.bi .idx [.bor 0, .int 0], .int 1, .bi .neg [.int 1]] [.asg 3 (.bi .tolst [.bi (.slc false true) [.bor 1, .non, .var 2]]),
    .asgO 4 (.lst [.bi .idx [.bor 3, .int 0]]),
    .for (.nm 5) .seq [.bi (.slc true false) [.bor 3, .int 1, .non]] [.ite (.bi (.cmp .isin) [.tup [.bi .idx [.bor 4, .bi .neg [.int 1]], .var 5], .bi .idx [.bor 0, .int 1]]) [.app 4 (.var 5)] []],
    .par [true, false] [6, 7] [.lst [], .int 0],
    .for (.nm 5) .seq [.bi (.slc true false) [.bor 3, .int 1, .non]] [.asg 7 (.bi (.bin .add) [.bor 7, .bi .toint [.and (.bi (.cmp .lt) [.bi (.bin .add) [.bor 7, .int 1], .bi .len [.bor 4]]) (.bi (.cmp .eq) [.bor 5, .bi .idx [.bor 4, .bi .min2 [.bi (.bin .add) [.bor 7, .int 1], .bi (.bin .sub) [.bi .len [.bor 4], .int 1]]]])]]),
      .app 6 (.ife (.bi (.cmp .isin) [.bor 5, .bor 4]) (.bi .idx [.bor 4, .bi (.bin .sub) [.bor 7, .int 1]]) (.var 5))],
    .asg 1 (.bi (.bin .add) [.bi (.bin .add) [.bi .totup [.bor 6], .tup [.bi .idx [.bor 4, .bi .neg [.int 1]]]], .bi (.slc true false) [.bor 1, .var 2, .non]])],
  .ret (.var 1)]
def d__law_evacuated : Fd := ⟨2, 8, false, b__law_evacuated⟩
abbrev n__law_evacuated : List Str := ["order", "row", "many", "part", "path", "work", "late", "gone"]
abbrev p__law_evacuated : List Str := ["order", "row"]
def b_law : List Sm := 
  [.for (.nm 2) .rng1 [.int 4] [.asgT (.tp [(.nm 3), (.nm 7)]) (.call 15 false [.var 1, .bi .idx [.lst [.int 4, .int 6, .int 8, .int 10], .bor 2]]),
    .asgT (.tp [(.nm 8), (.nm 9)]) (.tup [.bi .idx [.bor 3, .int 0], .call 13 false [.var 1, .lst [.var 7, .call 19 false [.var 1, .var 3]]]]),
    .par [false, false, false] [10, 11, 12] [.bi .repr [.lst [.var 3, .var 9]], .lst [], .lst []],
    .for (.nm 4) .rng3 [.bi (.bin .sub) [.bor 8, .int 1], .int 0, .bi .neg [.int 1]] [.asg 11 (.bi (.bin .add) [.bor 11, .bi .lrange1 [.bor 4]]),
      .asg 12 (.bi (.bin .add) [.bor 12, .comp [15] (.nm 15) .rng1 [.bor 4] [] (.bi (.bin .sub) [.bi (.bin .sub) [.bor 8, .int 2], .bor 15])])],
    .ite (.bi (.cmp .ne) [.bi .repr [.lst [.call 7 false [.var 8], .call 8 false [.var 8]]], .bi .repr [.lst [.bi .totup [.bor 11], .bi .totup [.bor 12]]]]) [.ret (.bl false)] [],
    .par [false, false] [13, 14] [.call 9 false [.var 3, .var 9], .call 10 false [.var 3, .var 9]],
    .ite (.bi (.cmp .ne) [.bi .repr [.lst [.var 13, .var 14]], .bi .repr [.lst [.call 20 false [.var 3, .var 9], .call 18 false [.var 3, .var 9, .var 12]]]]) [.ret (.bl false)] [],
    .ite (.or (.bi (.cmp .ne) [.call 18 false [.var 3, .var 9, .var 11], .bor 13]) (.bi (.cmp .ne) [.call 9 false [.var 3, .var 13], .bor 9])) [.ret (.bl false)] [],
    .ite (.bi (.cmp .ne) [.call 10 false [.var 3, .var 14], .bor 9]) [.ret (.bl false)] [],
    .asg 5 (.call 5 false [.var 3, .var 9]),
    .ite (.or (.bi (.cmp .ne) [.call 9 false [.var 3, .call 4 false [.var 3, .var 13]], .bor 5]) (.bi (.cmp .ne) [.call 10 false [.var 3, .call 4 false [.var 3, .var 14]], .bor 5])) [.ret (.bl false)] [],
    .asg 6 (.call 6 false [.var 3, .var 9, .var 8]),
    .ite (.or (.bi (.cmp .ne) [.bor 6, .call 10 false [.var 3, .var 13]]) (.bi (.cmp .ne) [.call 9 false [.var 3, .call 10 false [.var 3, .var 6]], .bor 9])) [.ret (.bl false)] [],
    .ite (.or (.not (.call 16 false [.var 3, .var 13])) (.or (.not (.call 16 false [.var 3, .var 14])) (.bi (.cmp .ne) [.bi .repr [.lst [.var 3, .var 9]], .bor 10]))) [.ret (.bl false)] []],
  .asg 3 (.tup [.int 4, .tup [.tup [.int 0, .int 1], .tup [.int 0, .int 2], .tup [.int 0, .int 3], .tup [.int 1, .int 3]]]),
  .ret (.bi (.cmp .eq) [.lst [.call 9 false [.var 3, .tup [.int 0, .int 1, .int 2, .int 3]], .call 10 false [.var 3, .tup [.int 0, .int 1, .int 2, .int 3]]], .lst [.tup [.int 0, .int 1, .int 2, .int 3], .tup [.int 0, .int 2, .int 1, .int 3]]])]
def d_law : Fd := ⟨1, 16, false, b_law⟩
abbrev n_law : List Str := ["script", "source", "lap", "order", "many", "due", "often", "first", "n", "row", "kept", "up", "down", "over", "below", "i"]
abbrev p_law : List Str := ["script"]
def tb : Nat → Option Fn
  | 0 => some (.py d_is_loose)
  | 1 => some (.py d_swapped)
  | 2 => some (.py d_swapped_along)
  | 3 => some (.py d_promotion_path)
  | 4 => some (.py d_promoted)
  | 5 => some (.py d_demoted)
  | 6 => some (.py d_promoted_often)
  | 7 => some (.py d_evacuating_swaps)
  | 8 => some (.py d_swaps_from_below)
  | 9 => some (.py d_evacuated)
  | 10 => some (.py d_evacuated_below)
  | 12 => some (.py d__law_pick)
  | 13 => some (.py d__law_of)
  | 14 => some (.py d__law_mixed)
  | 15 => some (.py d__law_order)
  | 16 => some (.py d__law_is_list)
  | 17 => some (.py d__law_swap)
  | 18 => some (.py d__law_along)
  | 19 => some (.py d__law_some_list)
  | 20 => some (.py d__law_evacuated)
  | _ => none
structure Zs (mg : Str → Option Value) : Prop where
  abs_ : mg "abs" = none
  dict_ : mg "dict" = none
  enumerate_ : mg "enumerate" = none
  int_ : mg "int" = none
  len_ : mg "len" = none
  list_ : mg "list" = none
  min_ : mg "min" = none
  range_ : mg "range" = none
  repr_ : mg "repr" = none
  sorted_ : mg "sorted" = none
  tuple_ : mg "tuple" = none
structure Cals (P : Program) (w : World) (K : PySem.W.Frag) (mg : Str → Option Value) (base : Heap) (k : Nat) (cf : Cf) : Prop where
  c0 : Cal P w K mg base k cf 0 "is_loose" d_is_loose.fresh
  c1 : Cal P w K mg base k cf 1 "swapped" d_swapped.fresh
  c2 : Cal P w K mg base k cf 2 "swapped_along" d_swapped_along.fresh
  c3 : Cal P w K mg base k cf 3 "promotion_path" d_promotion_path.fresh
  c4 : Cal P w K mg base k cf 4 "promoted" d_promoted.fresh
  c5 : Cal P w K mg base k cf 5 "demoted" d_demoted.fresh
  c6 : Cal P w K mg base k cf 6 "promoted_often" d_promoted_often.fresh
  c7 : Cal P w K mg base k cf 7 "evacuating_swaps" d_evacuating_swaps.fresh
  c8 : Cal P w K mg base k cf 8 "swaps_from_below" d_swaps_from_below.fresh
  c9 : Cal P w K mg base k cf 9 "evacuated" d_evacuated.fresh
  c10 : Cal P w K mg base k cf 10 "evacuated_below" d_evacuated_below.fresh
  c12 : Cal P w K mg base k cf 12 "_law_pick" d__law_pick.fresh
  c13 : Cal P w K mg base k cf 13 "_law_of" d__law_of.fresh
  c14 : Cal P w K mg base k cf 14 "_law_mixed" d__law_mixed.fresh
  c15 : Cal P w K mg base k cf 15 "_law_order" d__law_order.fresh
  c16 : Cal P w K mg base k cf 16 "_law_is_list" d__law_is_list.fresh
  c17 : Cal P w K mg base k cf 17 "_law_swap" d__law_swap.fresh
  c18 : Cal P w K mg base k cf 18 "_law_along" d__law_along.fresh
  c19 : Cal P w K mg base k cf 19 "_law_some_list" d__law_some_list.fresh
  c20 : Cal P w K mg base k cf 20 "_law_evacuated" d__law_evacuated.fresh
theorem sc_is_loose : FnScope n_is_loose p_is_loose (defScope (top 1)) := ⟨rfl, rfl, rfl, by decide +kernel, rfl, by decide +kernel, by decide +kernel⟩
theorem sc_swapped : FnScope n_swapped p_swapped (defScope (top 2)) := ⟨rfl, rfl, rfl, by decide +kernel, rfl, by decide +kernel, by decide +kernel⟩
theorem sc_swapped_along : FnScope n_swapped_along p_swapped_along (defScope (top 3)) := ⟨rfl, rfl, rfl, by decide +kernel, rfl, by decide +kernel, by decide +kernel⟩
theorem sc_promotion_path : FnScope n_promotion_path p_promotion_path (defScope (top 4)) := ⟨rfl, rfl, rfl, by decide +kernel, rfl, by decide +kernel, by decide +kernel⟩
theorem sc_promoted : FnScope n_promoted p_promoted (defScope (top 5)) := ⟨rfl, rfl, rfl, by decide +kernel, rfl, by decide +kernel, by decide +kernel⟩
theorem sc_demoted : FnScope n_demoted p_demoted (defScope (top 6)) := ⟨rfl, rfl, rfl, by decide +kernel, rfl, by decide +kernel, by decide +kernel⟩
theorem sc_promoted_often : FnScope n_promoted_often p_promoted_often (defScope (top 7)) := ⟨rfl, rfl, rfl, by decide +kernel, rfl, by decide +kernel, by decide +kernel⟩
theorem sc_evacuating_swaps : FnScope n_evacuating_swaps p_evacuating_swaps (defScope (top 8)) := ⟨rfl, rfl, rfl, by decide +kernel, rfl, by decide +kernel, by decide +kernel⟩
theorem sc_swaps_from_below : FnScope n_swaps_from_below p_swaps_from_below (defScope (top 9)) := ⟨rfl, rfl, rfl, by decide +kernel, rfl, by decide +kernel, by decide +kernel⟩
theorem sc_evacuated : FnScope n_evacuated p_evacuated (defScope (top 10)) := ⟨rfl, rfl, rfl, by decide +kernel, rfl, by decide +kernel, by decide +kernel⟩
theorem sc_evacuated_below : FnScope n_evacuated_below p_evacuated_below (defScope (top 11)) := ⟨rfl, rfl, rfl, by decide +kernel, rfl, by decide +kernel, by decide +kernel⟩
theorem sc__law_pick : FnScope n__law_pick p__law_pick (defScope (top 14)) := ⟨rfl, rfl, rfl, by decide +kernel, rfl, by decide +kernel, by decide +kernel⟩
theorem sc__law_of : FnScope n__law_of p__law_of (defScope (top 15)) := ⟨rfl, rfl, rfl, by decide +kernel, rfl, by decide +kernel, by decide +kernel⟩
theorem sc__law_mixed : FnScope n__law_mixed p__law_mixed (defScope (top 16)) := ⟨rfl, rfl, rfl, by decide +kernel, rfl, by decide +kernel, by decide +kernel⟩
theorem sc__law_order : FnScope n__law_order p__law_order (defScope (top 17)) := ⟨rfl, rfl, rfl, by decide +kernel, rfl, by decide +kernel, by decide +kernel⟩
theorem sc__law_is_list : FnScope n__law_is_list p__law_is_list (defScope (top 18)) := ⟨rfl, rfl, rfl, by decide +kernel, rfl, by decide +kernel, by decide +kernel⟩
theorem sc__law_swap : FnScope n__law_swap p__law_swap (defScope (top 19)) := ⟨rfl, rfl, rfl, by decide +kernel, rfl, by decide +kernel, by decide +kernel⟩
theorem sc__law_along : FnScope n__law_along p__law_along (defScope (top 20)) := ⟨rfl, rfl, rfl, by decide +kernel, rfl, by decide +kernel, by decide +kernel⟩
theorem sc__law_some_list : FnScope n__law_some_list p__law_some_list (defScope (top 21)) := ⟨rfl, rfl, rfl, by decide +kernel, rfl, by decide +kernel, by decide +kernel⟩
theorem sc__law_evacuated : FnScope n__law_evacuated p__law_evacuated (defScope (top 22)) := ⟨rfl, rfl, rfl, by decide +kernel, rfl, by decide +kernel, by decide +kernel⟩
theorem sc_law : FnScope n_law p_law (defScope (top 23)) := ⟨rfl, rfl, rfl, by decide +kernel, rfl, by decide +kernel, by decide +kernel⟩
theorem bd_is_loose {P : Program} {w : World} {K : PySem.W.Frag} {mg : Str → Option Value} {base : Heap} {k fuel : Nat} {cf : Cf} (IH : Cals P w K mg base k cf) (z : Zs mg) {f : Addr} (cdv : Value) (A : Around) (outer : List PySem.Env) (s : Shared) (H : Hp) (hg : A.guards = some []) (hr : Room k (A.deeper (PyProof.Rows.envOfC "is_loose" (defScope (top 1)) s.heap.objs.size f cdv))) :
    PSs (bodyX P w K mg base n_is_loose "is_loose" (top 1) f cdv A outer s H) (defBody (top 1)) (TSs cf d_is_loose.fresh fuel d_is_loose.body) :=
  have C := bodyX_ok (P := P) (w := w) (K := K) (mg := mg) (base := base) (outer := outer) (H := H) sc_is_loose hg hr
  (s_cons (s_ret (r_and (r_cmp (p_notin C (r_tup (a_cons (r_var (pv 1)) (a_cons (r_var (pv 2)) a_nil))) (ix C (pv 0) k_int)) (hm := by with_unfolding_all rfl)) (r_one (r_cmp (p_notin C (r_tup (a_cons (r_var (pv 2)) (a_cons (r_var (pv 1)) a_nil))) (ix C (pv 0) k_int)) (hm := by with_unfolding_all rfl)))))
    s_nil)
theorem bd_swapped {P : Program} {w : World} {K : PySem.W.Frag} {mg : Str → Option Value} {base : Heap} {k fuel : Nat} {cf : Cf} (IH : Cals P w K mg base k cf) (z : Zs mg) {f : Addr} (cdv : Value) (A : Around) (outer : List PySem.Env) (s : Shared) (H : Hp) (hg : A.guards = some []) (hr : Room k (A.deeper (PyProof.Rows.envOfC "swapped" (defScope (top 2)) s.heap.objs.size f cdv))) :
    PSs (bodyX P w K mg base n_swapped "swapped" (top 2) f cdv A outer s H) (defBody (top 2)) (TSs cf d_swapped.fresh fuel d_swapped.body) :=
  have C := bodyX_ok (P := P) (w := w) (K := K) (mg := mg) (base := base) (outer := outer) (H := H) sc_swapped hg hr
  (s_cons (s_par2 C rfl rfl rfl rfl (a_cons (ix C (pv 1) (pv 2)) (a_cons (ix C (pv 1) (r_add (pv 2) k_int)) a_nil)))
    (s_cons (s_ret (r_ife (t_val (r_callF C hr IH.c0 rfl (a_cons (r_var (pv 0)) (a_cons (r_var (pv 3)) (a_cons (r_var (pv 4)) a_nil))))) (r_tup (a_star (r_slc (pv 1) po_out (po_in (r_var (pv 2)))) (a_cons (r_var (pv 4)) (a_cons (r_var (pv 3)) (a_star (r_slc (pv 1) (po_in (r_add (pv 2) k_int)) po_out) a_nil))))) (r_var (pv 1))))
    s_nil))
theorem bd_swapped_along {P : Program} {w : World} {K : PySem.W.Frag} {mg : Str → Option Value} {base : Heap} {k fuel : Nat} {cf : Cf} (IH : Cals P w K mg base k cf) (z : Zs mg) {f : Addr} (cdv : Value) (A : Around) (outer : List PySem.Env) (s : Shared) (H : Hp) (hg : A.guards = some []) (hr : Room k (A.deeper (PyProof.Rows.envOfC "swapped_along" (defScope (top 3)) s.heap.objs.size f cdv))) :
    PSs (bodyX P w K mg base n_swapped_along "swapped_along" (top 3) f cdv A outer s H) (defBody (top 3)) (TSs cf d_swapped_along.fresh fuel d_swapped_along.body) :=
  have C := bodyX_ok (P := P) (w := w) (K := K) (mg := mg) (base := base) (outer := outer) (H := H) sc_swapped_along hg hr
  (s_cons (s_for PassesOwn.never C.calm (i_seq (r_var (pv 2))) (gn 3 C) (s_cons (sa C (r_callF C hr IH.c1 rfl (a_cons (r_var (pv 0)) (a_cons (r_var (pv 1)) (a_cons (r_var (pv 3)) a_nil)))))
      s_nil))
    (s_cons (s_ret (r_var (pv 1)))
    s_nil))
theorem bd_promotion_path {P : Program} {w : World} {K : PySem.W.Frag} {mg : Str → Option Value} {base : Heap} {k fuel : Nat} {cf : Cf} (IH : Cals P w K mg base k cf) (z : Zs mg) {f : Addr} (cdv : Value) (A : Around) (outer : List PySem.Env) (s : Shared) (H : Hp) (hg : A.guards = some []) (hr : Room k (A.deeper (PyProof.Rows.envOfC "promotion_path" (defScope (top 4)) s.heap.objs.size f cdv))) :
    PSs (bodyX P w K mg base n_promotion_path "promotion_path" (top 4) f cdv A outer s H) (defBody (top 4)) (TSs cf d_promotion_path.fresh fuel d_promotion_path.body) :=
  have C := bodyX_ok (P := P) (w := w) (K := K) (mg := mg) (base := base) (outer := outer) (H := H) sc_promotion_path hg hr
  (s_cons (sa C (r_slc (pv 1) po_out (po_in k_int)))
    (s_cons (s_for PassesOwn.never C.calm (i_seq (r_slc (pv 1) (po_in k_int) po_out)) (gn 3 C) (s_cons (s_if (t_cmp (p_in C (r_tup (a_cons (ix C (pv 2) (r_neg k_int)) (a_cons (r_var (pv 3)) a_nil))) (ix C (pv 0) k_int)) (hm := by with_unfolding_all rfl)) (s_cons (sa C (r_tup (a_star (pv 2) (a_cons (r_var (pv 3)) a_nil))))
        s_nil) s_nil)
      s_nil))
    (s_cons (s_ret (r_var (pv 2)))
    s_nil)))
theorem bd_promoted {P : Program} {w : World} {K : PySem.W.Frag} {mg : Str → Option Value} {base : Heap} {k fuel : Nat} {cf : Cf} (IH : Cals P w K mg base k cf) (z : Zs mg) {f : Addr} (cdv : Value) (A : Around) (outer : List PySem.Env) (s : Shared) (H : Hp) (hg : A.guards = some []) (hr : Room k (A.deeper (PyProof.Rows.envOfC "promoted" (defScope (top 5)) s.heap.objs.size f cdv))) :
    PSs (bodyX P w K mg base n_promoted "promoted" (top 5) f cdv A outer s H) (defBody (top 5)) (TSs cf d_promoted.fresh fuel d_promoted.body) :=
  have C := bodyX_ok (P := P) (w := w) (K := K) (mg := mg) (base := base) (outer := outer) (H := H) sc_promoted hg hr
  (s_cons (s_par2 C rfl rfl rfl rfl (a_cons (r_callF C hr IH.c3 rfl (a_cons (r_var (pv 0)) (a_cons (r_var (pv 1)) a_nil))) (a_cons (r_tup a_nil) a_nil)))
    (s_cons (sa C k_int)
    (s_cons (s_for PassesOwn.never C.calm (i_seq (r_slc (pv 1) (po_in k_int) po_out)) (gn 3 C) (s_cons (s_if (t_w (w_and (t_cmp (p_lt C (r_add (pv 2) k_int) (q_len z.len_ (o_cons (pv 4) o_nil)))) (w_one (t_cmp (p_eq C (pv 3) (ix C (pv 4) (r_add (pv 2) k_int))))))) (s_cons (sa C (r_tup (a_star (pv 5) (a_cons (ix C (pv 4) (pv 2)) a_nil))))
        (s_cons (sa C (r_add (pv 2) k_int))
        s_nil)) (s_cons (sa C (r_tup (a_star (pv 5) (a_cons (r_var (pv 3)) a_nil))))
        s_nil))
      s_nil))
    (s_cons (s_ret (r_tup (a_star (pv 5) (a_cons (ix C (pv 4) (r_neg k_int)) a_nil))))
    s_nil))))
theorem bd_demoted {P : Program} {w : World} {K : PySem.W.Frag} {mg : Str → Option Value} {base : Heap} {k fuel : Nat} {cf : Cf} (IH : Cals P w K mg base k cf) (z : Zs mg) {f : Addr} (cdv : Value) (A : Around) (outer : List PySem.Env) (s : Shared) (H : Hp) (hg : A.guards = some []) (hr : Room k (A.deeper (PyProof.Rows.envOfC "demoted" (defScope (top 6)) s.heap.objs.size f cdv))) :
    PSs (bodyX P w K mg base n_demoted "demoted" (top 6) f cdv A outer s H) (defBody (top 6)) (TSs cf d_demoted.fresh fuel d_demoted.body) :=
  have C := bodyX_ok (P := P) (w := w) (K := K) (mg := mg) (base := base) (outer := outer) (H := H) sc_demoted hg hr
  (s_cons (s_ret (r_callF C hr IH.c2 rfl (a_cons (r_var (pv 0)) (a_cons (r_var (pv 1)) (a_cons (r_lrange3 C rfl z.list_ rfl z.range_ (o_cons (r_sub (ix C (pv 0) k_int) k_int) (o_cons (r_neg k_int) (o_cons (r_neg k_int) o_nil)))) a_nil)))))
    s_nil)
theorem bd_promoted_often {P : Program} {w : World} {K : PySem.W.Frag} {mg : Str → Option Value} {base : Heap} {k fuel : Nat} {cf : Cf} (IH : Cals P w K mg base k cf) (z : Zs mg) {f : Addr} (cdv : Value) (A : Around) (outer : List PySem.Env) (s : Shared) (H : Hp) (hg : A.guards = some []) (hr : Room k (A.deeper (PyProof.Rows.envOfC "promoted_often" (defScope (top 7)) s.heap.objs.size f cdv))) :
    PSs (bodyX P w K mg base n_promoted_often "promoted_often" (top 7) f cdv A outer s H) (defBody (top 7)) (TSs cf d_promoted_often.fresh fuel d_promoted_often.body) :=
  have C := bodyX_ok (P := P) (w := w) (K := K) (mg := mg) (base := base) (outer := outer) (H := H) sc_promoted_often hg hr
  (s_cons (s_for PassesOwn.never C.calm (i_rng1 rfl z.range_ (o_cons (q_abs z.abs_ (o_cons (pv 2) o_nil)) o_nil)) (gn 3 C) (s_cons (sa C (r_ife (t_cmp (p_gt (pv 2) k_int)) (r_callF C hr IH.c4 rfl (a_cons (r_var (pv 0)) (a_cons (r_var (pv 1)) a_nil))) (r_callF C hr IH.c5 rfl (a_cons (r_var (pv 0)) (a_cons (r_var (pv 1)) a_nil)))))
      s_nil))
    (s_cons (s_ret (r_var (pv 1)))
    s_nil))
theorem bd_evacuating_swaps {P : Program} {w : World} {K : PySem.W.Frag} {mg : Str → Option Value} {base : Heap} {k fuel : Nat} {cf : Cf} (IH : Cals P w K mg base k cf) (z : Zs mg) {f : Addr} (cdv : Value) (A : Around) (outer : List PySem.Env) (s : Shared) (H : Hp) (hg : A.guards = some []) (hr : Room k (A.deeper (PyProof.Rows.envOfC "evacuating_swaps" (defScope (top 8)) s.heap.objs.size f cdv))) :
    PSs (bodyX P w K mg base n_evacuating_swaps "evacuating_swaps" (top 8) f cdv A outer s H) (defBody (top 8)) (TSs cf d_evacuating_swaps.fresh fuel d_evacuating_swaps.body) :=
  have C := bodyX_ok (P := P) (w := w) (K := K) (mg := mg) (base := base) (outer := outer) (H := H) sc_evacuating_swaps hg hr
  (s_cons (so C (r_lst a_nil))
    (s_cons (s_for PassesOwn.never C.calm (i_rng3 rfl z.range_ (o_cons (r_sub (pv 0) k_int) (o_cons k_int (o_cons (r_neg k_int) o_nil)))) (gn 2 C) (s_cons (s_ext (pv 1) (r_lrange1 C rfl z.list_ rfl z.range_ (o_cons (pv 2) o_nil)))
      s_nil))
    (s_cons (s_ret (q_tuple z.tuple_ (o_cons (pv 1) o_nil)))
    s_nil)))
theorem bd_swaps_from_below {P : Program} {w : World} {K : PySem.W.Frag} {mg : Str → Option Value} {base : Heap} {k fuel : Nat} {cf : Cf} (IH : Cals P w K mg base k cf) (z : Zs mg) {f : Addr} (cdv : Value) (A : Around) (outer : List PySem.Env) (s : Shared) (H : Hp) (hg : A.guards = some []) (hr : Room k (A.deeper (PyProof.Rows.envOfC "swaps_from_below" (defScope (top 9)) s.heap.objs.size f cdv))) :
    PSs (bodyX P w K mg base n_swaps_from_below "swaps_from_below" (top 9) f cdv A outer s H) (defBody (top 9)) (TSs cf d_swaps_from_below.fresh fuel d_swaps_from_below.body) :=
  have C := bodyX_ok (P := P) (w := w) (K := K) (mg := mg) (base := base) (outer := outer) (H := H) sc_swaps_from_below hg hr
  (s_cons (s_ret (q_tuple z.tuple_ (o_cons (r_comp (own := [("i", 1)]) C (i_seq (r_callF C hr IH.c7 rfl (a_cons (r_var (pv 0)) a_nil))) (blkOk_by rfl) (fun _ _ _ _ _ => (gn 1 (Cok.blk C _ _ _ _ _))) (fun _ _ _ _ _ => f_nil) (fun _ _ _ _ _ => (r_sub (r_sub (pv 0) k_int) (pv 1)))) o_nil)))
    s_nil)
theorem bd_evacuated {P : Program} {w : World} {K : PySem.W.Frag} {mg : Str → Option Value} {base : Heap} {k fuel : Nat} {cf : Cf} (IH : Cals P w K mg base k cf) (z : Zs mg) {f : Addr} (cdv : Value) (A : Around) (outer : List PySem.Env) (s : Shared) (H : Hp) (hg : A.guards = some []) (hr : Room k (A.deeper (PyProof.Rows.envOfC "evacuated" (defScope (top 10)) s.heap.objs.size f cdv))) :
    PSs (bodyX P w K mg base n_evacuated "evacuated" (top 10) f cdv A outer s H) (defBody (top 10)) (TSs cf d_evacuated.fresh fuel d_evacuated.body) :=
  have C := bodyX_ok (P := P) (w := w) (K := K) (mg := mg) (base := base) (outer := outer) (H := H) sc_evacuated hg hr
  (s_cons (s_ret (r_callF C hr IH.c2 rfl (a_cons (r_var (pv 0)) (a_cons (r_var (pv 1)) (a_cons (r_callF C hr IH.c7 rfl (a_cons (ix C (pv 0) k_int) a_nil)) a_nil)))))
    s_nil)
theorem bd_evacuated_below {P : Program} {w : World} {K : PySem.W.Frag} {mg : Str → Option Value} {base : Heap} {k fuel : Nat} {cf : Cf} (IH : Cals P w K mg base k cf) (z : Zs mg) {f : Addr} (cdv : Value) (A : Around) (outer : List PySem.Env) (s : Shared) (H : Hp) (hg : A.guards = some []) (hr : Room k (A.deeper (PyProof.Rows.envOfC "evacuated_below" (defScope (top 11)) s.heap.objs.size f cdv))) :
    PSs (bodyX P w K mg base n_evacuated_below "evacuated_below" (top 11) f cdv A outer s H) (defBody (top 11)) (TSs cf d_evacuated_below.fresh fuel d_evacuated_below.body) :=
  have C := bodyX_ok (P := P) (w := w) (K := K) (mg := mg) (base := base) (outer := outer) (H := H) sc_evacuated_below hg hr
  (s_cons (s_ret (r_callF C hr IH.c2 rfl (a_cons (r_var (pv 0)) (a_cons (r_var (pv 1)) (a_cons (r_callF C hr IH.c8 rfl (a_cons (ix C (pv 0) k_int) a_nil)) a_nil)))))
    s_nil)
theorem bd__law_pick {P : Program} {w : World} {K : PySem.W.Frag} {mg : Str → Option Value} {base : Heap} {k fuel : Nat} {cf : Cf} (IH : Cals P w K mg base k cf) (z : Zs mg) {f : Addr} (cdv : Value) (A : Around) (outer : List PySem.Env) (s : Shared) (H : Hp) (hg : A.guards = some []) (hr : Room k (A.deeper (PyProof.Rows.envOfC "_law_pick" (defScope (top 14)) s.heap.objs.size f cdv))) :
    PSs (bodyX P w K mg base n__law_pick "_law_pick" (top 14) f cdv A outer s H) (defBody (top 14)) (TSs cf d__law_pick.fresh fuel d__law_pick.body) :=
  have C := bodyX_ok (P := P) (w := w) (K := K) (mg := mg) (base := base) (outer := outer) (H := H) sc__law_pick hg hr
  (s_cons (s_if (t_cmp (p_lt C (pv 1) k_int)) (s_cons (s_ret k_int)
      s_nil) s_nil)
    (s_fill (ps_set C.nd rfl (Or.inl rfl) (pe_dget (hu_ C) (pv 0) pe_str (fun _ _ => rfl))) (ps_while PassesOwn.never (PW.pt (pw_and (pt_cmp (pc_lt (pe_dget (hu_ C) (pv 0) pe_str (fun _ _ => rfl)) pe_int)) (pw_and1 (pt_cmp (pc_gt (pe_callB call_len rfl z.len_ boot_len (pa_cons (pv 2) pa_nil)) pe_int))))) (pss_one (ps_dput (hu_ C) (pv 0) pe_str (pe_bm0 F.plainAttrs_list F.slot_list_pop F.type_list_pop mt_pop (pv 2)) rfl)))
    (s_cons (sa C (r_sget C (pv 0)))
    (s_cons (s_if (t_cmp (p_gt (pv 3) k_int)) (s_cons (s_sput C (pv 0) (r_fdiv (pv 3) (pv 1)))
      (s_cons (s_ret (r_mod (q_int z.int_ (o_cons (pv 3) o_nil)) (pv 1)))
      s_nil)) s_nil)
    (s_cons (s_sput C (pv 0) (r_add (r_sget C (pv 0)) k_int))
    (s_cons (sa C (r_sget C (pv 0)))
    (s_cons (sa C (r_mod (q_int z.int_ (o_cons (r_add (r_sget C (pv 0)) (r_mul (pv 4) k_int)) o_nil)) k_int))
    (s_cons (sa C (r_mod (q_int z.int_ (o_cons (r_add (r_mul (pv 5) (pv 5)) (r_mul (pv 4) k_int)) o_nil)) k_int))
    (s_cons (s_ret (r_mod (q_int z.int_ (o_cons (r_fdiv (pv 5) k_int) o_nil)) (pv 1)))
    s_nil)))))))))
theorem bd__law_of {P : Program} {w : World} {K : PySem.W.Frag} {mg : Str → Option Value} {base : Heap} {k fuel : Nat} {cf : Cf} (IH : Cals P w K mg base k cf) (z : Zs mg) {f : Addr} (cdv : Value) (A : Around) (outer : List PySem.Env) (s : Shared) (H : Hp) (hg : A.guards = some []) (hr : Room k (A.deeper (PyProof.Rows.envOfC "_law_of" (defScope (top 15)) s.heap.objs.size f cdv))) :
    PSs (bodyX P w K mg base n__law_of "_law_of" (top 15) f cdv A outer s H) (defBody (top 15)) (TSs cf d__law_of.fresh fuel d__law_of.body) :=
  have C := bodyX_ok (P := P) (w := w) (K := K) (mg := mg) (base := base) (outer := outer) (H := H) sc__law_of hg hr
  (s_cons (s_ret (ix C (pv 1) (r_callF C hr IH.c12 rfl (a_cons (r_var (pv 0)) (a_cons (q_len z.len_ (o_cons (pv 1) o_nil)) a_nil)))))
    s_nil)
theorem bd__law_mixed {P : Program} {w : World} {K : PySem.W.Frag} {mg : Str → Option Value} {base : Heap} {k fuel : Nat} {cf : Cf} (IH : Cals P w K mg base k cf) (z : Zs mg) {f : Addr} (cdv : Value) (A : Around) (outer : List PySem.Env) (s : Shared) (H : Hp) (hg : A.guards = some []) (hr : Room k (A.deeper (PyProof.Rows.envOfC "_law_mixed" (defScope (top 16)) s.heap.objs.size f cdv))) :
    PSs (bodyX P w K mg base n__law_mixed "_law_mixed" (top 16) f cdv A outer s H) (defBody (top 16)) (TSs cf d__law_mixed.fresh fuel d__law_mixed.body) :=
  have C := bodyX_ok (P := P) (w := w) (K := K) (mg := mg) (base := base) (outer := outer) (H := H) sc__law_mixed hg hr
  (s_cons (so C (q_list z.list_ (o_cons (pv 1) o_nil)))
    (s_cons (s_ret (r_comp (own := [("lap", 3)]) C (i_rng1 rfl z.range_ (o_cons (q_len z.len_ (o_cons (pv 2) o_nil)) o_nil)) (blkOk_by rfl) (fun _ _ _ _ _ => (gn 3 (Cok.blk C _ _ _ _ _))) (fun _ _ _ _ _ => f_nil) (fun _ _ _ _ _ => (r_popAt (pv 2) (r_callF (Cok.blk C _ _ _ _ _) hr IH.c12 rfl (a_cons (r_var (pv 0)) (a_cons (q_len z.len_ (o_cons (pv 2) o_nil)) a_nil)))))))
    s_nil))
theorem bd__law_order {P : Program} {w : World} {K : PySem.W.Frag} {mg : Str → Option Value} {base : Heap} {k fuel : Nat} {cf : Cf} (IH : Cals P w K mg base k cf) (z : Zs mg) {f : Addr} (cdv : Value) (A : Around) (outer : List PySem.Env) (s : Shared) (H : Hp) (hg : A.guards = some []) (hr : Room k (A.deeper (PyProof.Rows.envOfC "_law_order" (defScope (top 17)) s.heap.objs.size f cdv))) :
    PSs (bodyX P w K mg base n__law_order "_law_order" (top 17) f cdv A outer s H) (defBody (top 17)) (TSs cf d__law_order.fresh fuel d__law_order.body) :=
  have C := bodyX_ok (P := P) (w := w) (K := K) (mg := mg) (base := base) (outer := outer) (H := H) sc__law_order hg hr
  (s_cons (s_par2 C rfl rfl rfl rfl (a_cons (r_add k_int (r_callF C hr IH.c12 rfl (a_cons (r_var (pv 0)) (a_cons (r_var (pv 1)) a_nil)))) (a_cons (r_callF C hr IH.c12 rfl (a_cons (r_var (pv 0)) (a_cons k_int a_nil))) a_nil)))
    (s_cons (sa C (r_callF C hr IH.c14 rfl (a_cons (r_var (pv 0)) (a_cons (r_lrange1 C rfl z.list_ rfl z.range_ (o_cons (pv 6) o_nil)) a_nil))))
    (s_cons (so C (q_dict C z.dict_ (o_cons (r_comp (own := [("work", 10)]) C (i_seq (r_var (pv 2))) (blkOk_by rfl) (fun _ _ _ _ _ => (gn 10 (Cok.blk C _ _ _ _ _))) (fun _ _ _ _ _ => f_nil) (fun _ _ _ _ _ => (r_tup (a_cons (r_var (pv 10)) (a_cons (r_lst a_nil) a_nil))))) o_nil)))
    (s_cons (s_for PassesOwn.never C.calm (i_enum rfl z.enumerate_ (o_cons (r_var (pv 2)) o_nil)) (g_tup (Cok.calm C) (g_cons (gn 8 C) (g_cons (gn 5 C) g_nil))) (s_cons (s_for PassesOwn.never C.calm (i_seq (r_rev (r_slc (pv 2) po_out (po_in (r_var (pv 8)))))) (gn 9 C) (s_cons (s_if (t_w (w_and (t_cmp (p_notin C (pv 9) (ix C (pv 3) (pv 5))) (hm := by with_unfolding_all rfl)) (w_one (t_cmp (p_lt C (r_callF C hr IH.c12 rfl (a_cons (r_var (pv 0)) (a_cons k_int a_nil))) (pv 7)))))) (s_cons (s_set C (pv 3) (pv 5) (r_add (r_add (ix C (pv 3) (pv 5)) (r_lst (a_cons (r_var (pv 9)) a_nil))) (r_comp (own := [("late", 11)]) C (i_seq (ix C (pv 3) (pv 9))) (blkOk_by rfl) (fun _ _ _ _ _ => (gn 11 (Cok.blk C _ _ _ _ _))) (fun _ _ _ _ _ => (f_one (t_cmp (p_notin (Cok.blk C _ _ _ _ _) (pv 11) (ix (Cok.blk C _ _ _ _ _) (pv 3) (pv 5))) (hm := by with_unfolding_all rfl)))) (fun _ _ _ _ _ => (r_var (pv 11))))))
          s_nil) s_nil)
        s_nil))
      s_nil))
    (s_cons (sa C (r_lst a_nil))
    (s_cons (s_for PassesOwn.never C.calm (i_seq (r_var (pv 2))) (gn 5 C) (s_cons (sa C (r_add (pv 4) (r_comp (own := [("a", 9)]) C (i_seq (ix C (pv 3) (pv 5))) (blkOk_by rfl) (fun _ _ _ _ _ => (gn 9 (Cok.blk C _ _ _ _ _))) (fun _ _ _ _ _ => f_nil) (fun _ _ _ _ _ => (r_tup (a_cons (r_var (pv 9)) (a_cons (r_var (pv 5)) a_nil)))))))
      s_nil))
    (s_cons (s_ret (r_tup (a_cons (r_tup (a_cons (r_var (pv 6)) (a_cons (q_tuple z.tuple_ (o_cons (q_sorted C z.sorted_ (o_cons (pv 4) o_nil)) o_nil)) a_nil))) (a_cons (q_tuple z.tuple_ (o_cons (pv 2) o_nil)) a_nil))))
    s_nil)))))))
theorem bd__law_is_list {P : Program} {w : World} {K : PySem.W.Frag} {mg : Str → Option Value} {base : Heap} {k fuel : Nat} {cf : Cf} (IH : Cals P w K mg base k cf) (z : Zs mg) {f : Addr} (cdv : Value) (A : Around) (outer : List PySem.Env) (s : Shared) (H : Hp) (hg : A.guards = some []) (hr : Room k (A.deeper (PyProof.Rows.envOfC "_law_is_list" (defScope (top 18)) s.heap.objs.size f cdv))) :
    PSs (bodyX P w K mg base n__law_is_list "_law_is_list" (top 18) f cdv A outer s H) (defBody (top 18)) (TSs cf d__law_is_list.fresh fuel d__law_is_list.body) :=
  have C := bodyX_ok (P := P) (w := w) (K := K) (mg := mg) (base := base) (outer := outer) (H := H) sc__law_is_list hg hr
  (s_cons (s_ret (r_cmp (p_eq C (r_comp (own := [("pair", 2)]) C (i_seq (ix C (pv 0) k_int)) (blkOk_by rfl) (fun _ _ _ _ _ => (gn 2 (Cok.blk C _ _ _ _ _))) (fun _ _ _ _ _ => (f_one (t_cmp (p_gt (r_ixof (r_var (pv 1)) (ix (Cok.blk C _ _ _ _ _) (pv 2) k_int)) (r_ixof (r_var (pv 1)) (ix (Cok.blk C _ _ _ _ _) (pv 2) k_int)))))) (fun _ _ _ _ _ => (r_var (pv 2)))) (r_lst a_nil))))
    s_nil)
theorem bd__law_swap {P : Program} {w : World} {K : PySem.W.Frag} {mg : Str → Option Value} {base : Heap} {k fuel : Nat} {cf : Cf} (IH : Cals P w K mg base k cf) (z : Zs mg) {f : Addr} (cdv : Value) (A : Around) (outer : List PySem.Env) (s : Shared) (H : Hp) (hg : A.guards = some []) (hr : Room k (A.deeper (PyProof.Rows.envOfC "_law_swap" (defScope (top 19)) s.heap.objs.size f cdv))) :
    PSs (bodyX P w K mg base n__law_swap "_law_swap" (top 19) f cdv A outer s H) (defBody (top 19)) (TSs cf d__law_swap.fresh fuel d__law_swap.body) :=
  have C := bodyX_ok (P := P) (w := w) (K := K) (mg := mg) (base := base) (outer := outer) (H := H) sc__law_swap hg hr
  (s_cons (sa C (r_add (r_add (r_slc (pv 1) po_out (po_in (r_var (pv 2)))) (r_tup (a_cons (ix C (pv 1) (r_add (pv 2) k_int)) (a_cons (ix C (pv 1) (pv 2)) a_nil)))) (r_slc (pv 1) (po_in (r_add (pv 2) k_int)) po_out)))
    (s_cons (s_ret (r_ife (t_val (r_callF C hr IH.c16 rfl (a_cons (r_var (pv 0)) (a_cons (r_var (pv 3)) a_nil)))) (r_var (pv 3)) (r_var (pv 1))))
    s_nil))
theorem bd__law_along {P : Program} {w : World} {K : PySem.W.Frag} {mg : Str → Option Value} {base : Heap} {k fuel : Nat} {cf : Cf} (IH : Cals P w K mg base k cf) (z : Zs mg) {f : Addr} (cdv : Value) (A : Around) (outer : List PySem.Env) (s : Shared) (H : Hp) (hg : A.guards = some []) (hr : Room k (A.deeper (PyProof.Rows.envOfC "_law_along" (defScope (top 20)) s.heap.objs.size f cdv))) :
    PSs (bodyX P w K mg base n__law_along "_law_along" (top 20) f cdv A outer s H) (defBody (top 20)) (TSs cf d__law_along.fresh fuel d__law_along.body) :=
  have C := bodyX_ok (P := P) (w := w) (K := K) (mg := mg) (base := base) (outer := outer) (H := H) sc__law_along hg hr
  (s_cons (s_for PassesOwn.never C.calm (i_seq (r_var (pv 2))) (gn 3 C) (s_cons (sa C (r_callF C hr IH.c17 rfl (a_cons (r_var (pv 0)) (a_cons (r_var (pv 1)) (a_cons (r_var (pv 3)) a_nil)))))
      s_nil))
    (s_cons (s_ret (r_var (pv 1)))
    s_nil))
theorem bd__law_some_list {P : Program} {w : World} {K : PySem.W.Frag} {mg : Str → Option Value} {base : Heap} {k fuel : Nat} {cf : Cf} (IH : Cals P w K mg base k cf) (z : Zs mg) {f : Addr} (cdv : Value) (A : Around) (outer : List PySem.Env) (s : Shared) (H : Hp) (hg : A.guards = some []) (hr : Room k (A.deeper (PyProof.Rows.envOfC "_law_some_list" (defScope (top 21)) s.heap.objs.size f cdv))) :
    PSs (bodyX P w K mg base n__law_some_list "_law_some_list" (top 21) f cdv A outer s H) (defBody (top 21)) (TSs cf d__law_some_list.fresh fuel d__law_some_list.body) :=
  have C := bodyX_ok (P := P) (w := w) (K := K) (mg := mg) (base := base) (outer := outer) (H := H) sc__law_some_list hg hr
  (s_cons (sa C (r_tup a_nil))
    (s_cons (s_while PassesOwn.never (t_cmp (p_lt C (q_len z.len_ (o_cons (pv 2) o_nil)) (ix C (pv 1) k_int))) (s_cons (sa C (r_comp (own := [("a", 4), ("b", 5)]) C (i_seq (ix C (pv 1) k_int)) (blkOk_by rfl) (fun _ _ _ _ _ => (g_tup (Cok.calm (Cok.blk C _ _ _ _ _)) (g_cons (gn 4 (Cok.blk C _ _ _ _ _)) (g_cons (gn 5 (Cok.blk C _ _ _ _ _)) g_nil)))) (fun _ _ _ _ _ => (f_one (t_cmp (p_notin (Cok.blk C _ _ _ _ _) (pv 4) (pv 2)) (hm := by with_unfolding_all rfl)))) (fun _ _ _ _ _ => (r_var (pv 5)))))
      (s_cons (sa C (r_add (pv 2) (r_tup (a_cons (r_callF C hr IH.c13 rfl (a_cons (r_var (pv 0)) (a_cons (r_comp (own := [("work", 6)]) C (i_rng1 rfl z.range_ (o_cons (ix C (pv 1) k_int) o_nil)) (blkOk_by rfl) (fun _ _ _ _ _ => (gn 6 (Cok.blk C _ _ _ _ _))) (fun _ _ _ _ _ => (f_one (t_w (w_and (t_cmp (p_notin (Cok.blk C _ _ _ _ _) (pv 6) (pv 2)) (hm := by with_unfolding_all rfl)) (w_one (t_cmp (p_notin (Cok.blk C _ _ _ _ _) (pv 6) (pv 3)) (hm := by with_unfolding_all rfl))))))) (fun _ _ _ _ _ => (r_var (pv 6)))) a_nil))) a_nil))))
      s_nil)))
    (s_cons (s_ret (r_var (pv 2)))
    s_nil)))
theorem bd__law_evacuated {P : Program} {w : World} {K : PySem.W.Frag} {mg : Str → Option Value} {base : Heap} {k fuel : Nat} {cf : Cf} (IH : Cals P w K mg base k cf) (z : Zs mg) {f : Addr} (cdv : Value) (A : Around) (outer : List PySem.Env) (s : Shared) (H : Hp) (hg : A.guards = some []) (hr : Room k (A.deeper (PyProof.Rows.envOfC "_law_evacuated" (defScope (top 22)) s.heap.objs.size f cdv))) :
    PSs (bodyX P w K mg base n__law_evacuated "_law_evacuated" (top 22) f cdv A outer s H) (defBody (top 22)) (TSs cf d__law_evacuated.fresh fuel d__law_evacuated.body) :=
  have C := bodyX_ok (P := P) (w := w) (K := K) (mg := mg) (base := base) (outer := outer) (H := H) sc__law_evacuated hg hr
  (s_cons (s_for PassesOwn.never C.calm (i_rng3 rfl z.range_ (o_cons (ix C (pv 0) k_int) (o_cons k_int (o_cons (r_neg k_int) o_nil)))) (gn 2 C) (s_cons (sa C (q_list z.list_ (o_cons (r_slc (pv 1) po_out (po_in (r_var (pv 2)))) o_nil)))
      (s_cons (so C (r_lst (a_cons (ix C (pv 3) k_int) a_nil)))
      (s_cons (s_for PassesOwn.never C.calm (i_seq (r_slc (pv 3) (po_in k_int) po_out)) (gn 5 C) (s_cons (s_if (t_cmp (p_in C (r_tup (a_cons (ix C (pv 4) (r_neg k_int)) (a_cons (r_var (pv 5)) a_nil))) (ix C (pv 0) k_int)) (hm := by with_unfolding_all rfl)) (s_cons (s_app (pv 4) (r_var (pv 5)))
          s_nil) s_nil)
        s_nil))
      (s_cons (s_parO2 C rfl rfl rfl rfl (u_cons (r_lst a_nil) (u_cons k_int u_nil)))
      (s_cons (s_for PassesOwn.never C.calm (i_seq (r_slc (pv 3) (po_in k_int) po_out)) (gn 5 C) (s_cons (sa C (r_add (pv 7) (q_int z.int_ (o_cons (r_and (r_cmp (p_lt C (r_add (pv 7) k_int) (q_len z.len_ (o_cons (pv 4) o_nil)))) (r_one (r_cmp (p_eq C (pv 5) (ix C (pv 4) (q_min2 C z.min_ (o_cons (r_add (pv 7) k_int) (o_cons (r_sub (q_len z.len_ (o_cons (pv 4) o_nil)) k_int) o_nil)))))))) o_nil))))
        (s_cons (s_app (pv 6) (r_ife (t_cmp (p_in C (pv 5) (pv 4)) (hm := by with_unfolding_all rfl)) (ix C (pv 4) (r_sub (pv 7) k_int)) (r_var (pv 5))))
        s_nil)))
      (s_cons (sa C (r_add (r_add (q_tuple z.tuple_ (o_cons (pv 6) o_nil)) (r_tup (a_cons (ix C (pv 4) (r_neg k_int)) a_nil))) (r_slc (pv 1) (po_in (r_var (pv 2))) po_out)))
      s_nil)))))))
    (s_cons (s_ret (r_var (pv 1)))
    s_nil))
abbrev n_src : List Str := ["script", "stirred", "cell", "cells"]
theorem sc_src : FnScope n_src ["script"] (defScope (top 13)) := ⟨rfl, rfl, rfl, by decide +kernel, rfl, by decide +kernel, by decide +kernel⟩
theorem bd_src {P : Program} {w : World} {K : PySem.W.Frag} {mg : Str → Option Value} {base : Heap} {k : Nat} (z : Zs mg) {f : Addr} (cdv : Value) (A : Around) (outer : List PySem.Env) (s : Shared) (H : Hp) (hg : A.guards = some []) (hr : Room k (A.deeper (PyProof.Rows.envOfC "_law_source" (defScope (top 13)) s.heap.objs.size f cdv))) :
    PSs (bodyX P w K mg base n_src "_law_source" (top 13) f cdv A outer s H) (defBody (top 13)) (tSrc K) := by
  have C := bodyX_ok (P := P) (w := w) (K := K) (mg := mg) (base := base) (outer := outer) (H := H) sc_src hg hr
  unfold tSrc
  exact pss_cons (ps_set C.nd rfl (by first | exact Or.inl rfl | exact Or.inr rfl) pe_int) (pss_cons (ps_for PassesOwn.never C.calm (pi_list (pv 0)) (pg_name C.nd rfl (by first | exact Or.inl rfl | exact Or.inr rfl)) (pss_one (ps_set C.nd rfl (by first | exact Or.inl rfl | exact Or.inr rfl) (pe_op op_mod (pe_callTy call_int1 rfl z.int_ PyProof.Rows.boot_int (pa_cons (pe_op op_add (pe_op op_add (pe_op op_mul (pv 1) pe_int) (pe_op op_mul (pv 2) pe_int)) pe_int) pa_nil)) pe_int))))
    (pss_cons (ps_setLc (own := [("cell", 2)]) C.calm C.nd rfl rfl rfl (pi_list (pv 0)) (blkOk_by rfl) (fun _ _ _ _ _ => pg_name C.nd rfl (by first | exact Or.inl rfl | exact Or.inr rfl)) (fun _ _ _ _ _ => pts_nil) (fun _ _ _ _ _ => pe_callB call_abs rfl z.abs_ boot_abs (pa_cons (pv 2) pa_nil)))
    (pss_one (ps_ret (pe_disp (pps_cons pe_str (pe_revL (pv 3)) (pps_cons pe_str pe_int (pps_cons pe_str (pv 1) (pps_cons pe_str pe_int pps_nil)))) rfl rfl (by simp) (by decide))))))
def Plain (fz : Bool) (k fuel : Nat) : Prop := ∀ s : Sr, s.fz = fz → ∃ s', evSs (callF tb fuel k) false fuel b_law ((none : Option (Bool × D)) :: some (false, .src) :: List.replicate 14 none) s = some (.rt (.bl true) s')
theorem bd_law {P : Program} {w : World} {K : PySem.W.Frag} {mg : Str → Option Value} {base : Heap} {k fuel : Nat} {fz : Bool} (IH : Cals P w K mg base k (callF tb fuel k)) (z : Zs mg) (pl : Plain fz k fuel) {fs : Addr} {fds : FuncData} (Fs : FnG P w K mg base k fs fds ["script"] (spSrc K)) (hms : mg "_law_source" = some (.ref fs)) (hks : PySem.W.keepIn K (.ref fs) = true) (hbs : L2.Binds K fds ["script"] []) {f : Addr} (cdv : Value) (A : Around) (outer : List PySem.Env) (s : Shared) (H : Hp) (vs : List V) (Q : VK) (hg : A.guards = some []) (hr : Room k (A.deeper (PyProof.Rows.envOfC "law" (defScope (top 23)) s.heap.objs.size f cdv))) (hsp : spLaw 63 K vs H Q) :
    ∃ t, PSs (bodyX P w K mg base n_law "law" (top 23) f cdv A outer s H) (defBody (top 23)) t ∧ t { nx := fun _ H' => Q .non H', rt := Q } (L2.start n_law vs) H := by
  have C := bodyX_ok (P := P) (w := w) (K := K) (mg := mg) (base := base) (outer := outer) (H := H) sc_law hg hr
  refine law_run (N := n_law) (fz := fz) C hr Fs ?_ ?_ (by decide) pl hsp
  · exact ps_set C.nd rfl (by first | exact Or.inl rfl | exact Or.inr rfl) (pe_callG Fs C.guards hr rfl hms hks hbs (pa_cons (pv 0) pa_nil))
  · exact (s_cons (s_for PassesOwn.never C.calm (i_rng1 rfl z.range_ (o_cons k_int o_nil)) (gn 2 C) (s_cons (s_asgT (r_callF C hr IH.c15 rfl (a_cons (r_var (pv 1)) (a_cons (ix C (r_lst (a_cons k_int (a_cons k_int (a_cons k_int (a_cons k_int a_nil))))) (pv 2)) a_nil))) (g_tup (Cok.calm C) (g_cons (gn 3 C) (g_cons (gn 7 C) g_nil))))
      (s_cons (s_asgT (r_tup (a_cons (ix C (pv 3) k_int) (a_cons (r_callF C hr IH.c13 rfl (a_cons (r_var (pv 1)) (a_cons (r_lst (a_cons (r_var (pv 7)) (a_cons (r_callF C hr IH.c19 rfl (a_cons (r_var (pv 1)) (a_cons (r_var (pv 3)) a_nil))) a_nil))) a_nil))) a_nil))) (g_tup (Cok.calm C) (g_cons (gn 8 C) (g_cons (gn 9 C) g_nil))))
      (s_cons (s_par3 C rfl rfl rfl rfl rfl rfl (a_cons (q_repr C z.repr_ (o_cons (r_lst (a_cons (r_var (pv 3)) (a_cons (r_var (pv 9)) a_nil))) o_nil)) (a_cons (r_lst a_nil) (a_cons (r_lst a_nil) a_nil))))
      (s_cons (s_for PassesOwn.never C.calm (i_rng3 rfl z.range_ (o_cons (r_sub (pv 8) k_int) (o_cons k_int (o_cons (r_neg k_int) o_nil)))) (gn 4 C) (s_cons (sa C (r_add (pv 11) (r_lrange1 C rfl z.list_ rfl z.range_ (o_cons (pv 4) o_nil))))
        (s_cons (sa C (r_add (pv 12) (r_comp (own := [("i", 15)]) C (i_rng1 rfl z.range_ (o_cons (pv 4) o_nil)) (blkOk_by rfl) (fun _ _ _ _ _ => (gn 15 (Cok.blk C _ _ _ _ _))) (fun _ _ _ _ _ => f_nil) (fun _ _ _ _ _ => (r_sub (r_sub (pv 8) k_int) (pv 15))))))
        s_nil)))
      (s_cons (s_if (t_cmp (p_ne C (q_repr C z.repr_ (o_cons (r_lst (a_cons (r_callF C hr IH.c7 rfl (a_cons (r_var (pv 8)) a_nil)) (a_cons (r_callF C hr IH.c8 rfl (a_cons (r_var (pv 8)) a_nil)) a_nil))) o_nil)) (q_repr C z.repr_ (o_cons (r_lst (a_cons (q_tuple z.tuple_ (o_cons (pv 11) o_nil)) (a_cons (q_tuple z.tuple_ (o_cons (pv 12) o_nil)) a_nil))) o_nil)))) (s_cons (s_ret k_bl)
        s_nil) s_nil)
      (s_cons (s_par2 C rfl rfl rfl rfl (a_cons (r_callF C hr IH.c9 rfl (a_cons (r_var (pv 3)) (a_cons (r_var (pv 9)) a_nil))) (a_cons (r_callF C hr IH.c10 rfl (a_cons (r_var (pv 3)) (a_cons (r_var (pv 9)) a_nil))) a_nil)))
      (s_cons (s_if (t_cmp (p_ne C (q_repr C z.repr_ (o_cons (r_lst (a_cons (r_var (pv 13)) (a_cons (r_var (pv 14)) a_nil))) o_nil)) (q_repr C z.repr_ (o_cons (r_lst (a_cons (r_callF C hr IH.c20 rfl (a_cons (r_var (pv 3)) (a_cons (r_var (pv 9)) a_nil))) (a_cons (r_callF C hr IH.c18 rfl (a_cons (r_var (pv 3)) (a_cons (r_var (pv 9)) (a_cons (r_var (pv 12)) a_nil)))) a_nil))) o_nil)))) (s_cons (s_ret k_bl)
        s_nil) s_nil)
      (s_cons (s_if (t_w (w_or (t_cmp (p_ne C (r_callF C hr IH.c18 rfl (a_cons (r_var (pv 3)) (a_cons (r_var (pv 9)) (a_cons (r_var (pv 11)) a_nil)))) (pv 13))) (w_one (t_cmp (p_ne C (r_callF C hr IH.c9 rfl (a_cons (r_var (pv 3)) (a_cons (r_var (pv 13)) a_nil))) (pv 9)))))) (s_cons (s_ret k_bl)
        s_nil) s_nil)
      (s_cons (s_if (t_cmp (p_ne C (r_callF C hr IH.c10 rfl (a_cons (r_var (pv 3)) (a_cons (r_var (pv 14)) a_nil))) (pv 9))) (s_cons (s_ret k_bl)
        s_nil) s_nil)
      (s_cons (sa C (r_callF C hr IH.c5 rfl (a_cons (r_var (pv 3)) (a_cons (r_var (pv 9)) a_nil))))
      (s_cons (s_if (t_w (w_or (t_cmp (p_ne C (r_callF C hr IH.c9 rfl (a_cons (r_var (pv 3)) (a_cons (r_callF C hr IH.c4 rfl (a_cons (r_var (pv 3)) (a_cons (r_var (pv 13)) a_nil))) a_nil))) (pv 5))) (w_one (t_cmp (p_ne C (r_callF C hr IH.c10 rfl (a_cons (r_var (pv 3)) (a_cons (r_callF C hr IH.c4 rfl (a_cons (r_var (pv 3)) (a_cons (r_var (pv 14)) a_nil))) a_nil))) (pv 5)))))) (s_cons (s_ret k_bl)
        s_nil) s_nil)
      (s_cons (sa C (r_callF C hr IH.c6 rfl (a_cons (r_var (pv 3)) (a_cons (r_var (pv 9)) (a_cons (r_var (pv 8)) a_nil)))))
      (s_cons (s_if (t_w (w_or (t_cmp (p_ne C (pv 6) (r_callF C hr IH.c10 rfl (a_cons (r_var (pv 3)) (a_cons (r_var (pv 13)) a_nil))))) (w_one (t_cmp (p_ne C (r_callF C hr IH.c9 rfl (a_cons (r_var (pv 3)) (a_cons (r_callF C hr IH.c10 rfl (a_cons (r_var (pv 3)) (a_cons (r_var (pv 6)) a_nil))) a_nil))) (pv 9)))))) (s_cons (s_ret k_bl)
        s_nil) s_nil)
      (s_cons (s_if (t_w (w_or (t_not (t_val (r_callF C hr IH.c16 rfl (a_cons (r_var (pv 3)) (a_cons (r_var (pv 13)) a_nil))))) (w_or (t_not (t_val (r_callF C hr IH.c16 rfl (a_cons (r_var (pv 3)) (a_cons (r_var (pv 14)) a_nil))))) (w_one (t_cmp (p_ne C (q_repr C z.repr_ (o_cons (r_lst (a_cons (r_var (pv 3)) (a_cons (r_var (pv 9)) a_nil))) o_nil)) (pv 10))))))) (s_cons (s_ret k_bl)
        s_nil) s_nil)
      s_nil)))))))))))))))
    (s_cons (sa C (r_tup (a_cons k_int (a_cons (r_tup (a_cons (r_tup (a_cons k_int (a_cons k_int a_nil))) (a_cons (r_tup (a_cons k_int (a_cons k_int a_nil))) (a_cons (r_tup (a_cons k_int (a_cons k_int a_nil))) (a_cons (r_tup (a_cons k_int (a_cons k_int a_nil))) a_nil))))) a_nil))))
    (s_cons (s_ret (r_cmp (p_eq C (r_lst (a_cons (r_callF C hr IH.c9 rfl (a_cons (r_var (pv 3)) (a_cons (r_tup (a_cons k_int (a_cons k_int (a_cons k_int (a_cons k_int a_nil))))) a_nil))) (a_cons (r_callF C hr IH.c10 rfl (a_cons (r_var (pv 3)) (a_cons (r_tup (a_cons k_int (a_cons k_int (a_cons k_int (a_cons k_int a_nil))))) a_nil))) a_nil))) (r_lst (a_cons (r_tup (a_cons k_int (a_cons k_int (a_cons k_int (a_cons k_int a_nil))))) (a_cons (r_tup (a_cons k_int (a_cons k_int (a_cons k_int (a_cons k_int a_nil))))) a_nil))))))
    s_nil)))
structure DefAt (K : PySem.W.Frag) (x : Str) (st : Stmt) (f : Addr) (fd : FuncData) : Prop where
  at_ : PySem.W.nsIn K mainGlobals x = some (some (.ref f))
  fn : Fun K x x st f fd
theorem DefAt.mk' {K : PySem.W.Frag} {x : Str} {st : Stmt} {f : Addr} {oc : Value} {od an : Option Addr} {osl : Array (Option Value)} {kV doc pm cdv ct : Value}
  (a : PySem.W.nsIn K mainGlobals x = some (some (.ref f))) (l : K.lookup f = some ⟨oc, od, .func (PySem.W.fnOf x x (defArgs st) (defBody st) (defScope st) .none kV doc pm an cdv ct), osl⟩)
    (c : PySem.W.codeIn K cdv x = true) (k : PySem.W.keepIn K (.ref f) = true) : ∃ f fd, DefAt K x st f fd := ⟨_, _, a, fun_mk l c k⟩
structure Facts (K : PySem.W.Frag) : Prop where
  d1 : ∃ f fd, DefAt K "is_loose" (top 1) f fd
  d2 : ∃ f fd, DefAt K "swapped" (top 2) f fd
  d3 : ∃ f fd, DefAt K "swapped_along" (top 3) f fd
  d4 : ∃ f fd, DefAt K "promotion_path" (top 4) f fd
  d5 : ∃ f fd, DefAt K "promoted" (top 5) f fd
  d6 : ∃ f fd, DefAt K "demoted" (top 6) f fd
  d7 : ∃ f fd, DefAt K "promoted_often" (top 7) f fd
  d8 : ∃ f fd, DefAt K "evacuating_swaps" (top 8) f fd
  d9 : ∃ f fd, DefAt K "swaps_from_below" (top 9) f fd
  d10 : ∃ f fd, DefAt K "evacuated" (top 10) f fd
  d11 : ∃ f fd, DefAt K "evacuated_below" (top 11) f fd
  d13 : ∃ f fd, DefAt K "_law_source" (top 13) f fd
  d14 : ∃ f fd, DefAt K "_law_pick" (top 14) f fd
  d15 : ∃ f fd, DefAt K "_law_of" (top 15) f fd
  d16 : ∃ f fd, DefAt K "_law_mixed" (top 16) f fd
  d17 : ∃ f fd, DefAt K "_law_order" (top 17) f fd
  d18 : ∃ f fd, DefAt K "_law_is_list" (top 18) f fd
  d19 : ∃ f fd, DefAt K "_law_swap" (top 19) f fd
  d20 : ∃ f fd, DefAt K "_law_along" (top 20) f fd
  d21 : ∃ f fd, DefAt K "_law_some_list" (top 21) f fd
  d22 : ∃ f fd, DefAt K "_law_evacuated" (top 22) f fd
  d23 : ∃ f fd, DefAt K "law" (top 23) f fd
  z_abs : PySem.W.nsIn K mainGlobals "abs" = some none
  z_dict : PySem.W.nsIn K mainGlobals "dict" = some none
  z_enumerate : PySem.W.nsIn K mainGlobals "enumerate" = some none
  z_int : PySem.W.nsIn K mainGlobals "int" = some none
  z_len : PySem.W.nsIn K mainGlobals "len" = some none
  z_list : PySem.W.nsIn K mainGlobals "list" = some none
  z_min : PySem.W.nsIn K mainGlobals "min" = some none
  z_range : PySem.W.nsIn K mainGlobals "range" = some none
  z_repr : PySem.W.nsIn K mainGlobals "repr" = some none
  z_sorted : PySem.W.nsIn K mainGlobals "sorted" = some none
  z_tuple : PySem.W.nsIn K mainGlobals "tuple" = some none
section
variable {P : Program} {w : World} {K : PySem.W.Frag} {mg : Str → Option Value} {h base : Heap}
theorem z_is_loose (X : K.In h) (G : h.Ns mainGlobals mg) (Fx : Facts K) : ∃ (f : Addr) (fd : FuncData), Fun K "is_loose" "is_loose" (top 1) f fd ∧ mg "is_loose" = some (.ref f) ∧ PySem.W.keepIn K (.ref f) = true ∧ L2.Binds K fd p_is_loose [] := by
  obtain ⟨f, fd, d⟩ := Fx.d1
  exact ⟨f, fd, d.fn, PySem.W.mg_of X G d.at_, d.fn.kp, d.fn.binds (fun kV doc pm an cdv ct us hl => by match us, hl with | [u0, u1, u2], _ => rfl)⟩
theorem z_swapped (X : K.In h) (G : h.Ns mainGlobals mg) (Fx : Facts K) : ∃ (f : Addr) (fd : FuncData), Fun K "swapped" "swapped" (top 2) f fd ∧ mg "swapped" = some (.ref f) ∧ PySem.W.keepIn K (.ref f) = true ∧ L2.Binds K fd p_swapped [] := by
  obtain ⟨f, fd, d⟩ := Fx.d2
  exact ⟨f, fd, d.fn, PySem.W.mg_of X G d.at_, d.fn.kp, d.fn.binds (fun kV doc pm an cdv ct us hl => by match us, hl with | [u0, u1, u2], _ => rfl)⟩
theorem z_swapped_along (X : K.In h) (G : h.Ns mainGlobals mg) (Fx : Facts K) : ∃ (f : Addr) (fd : FuncData), Fun K "swapped_along" "swapped_along" (top 3) f fd ∧ mg "swapped_along" = some (.ref f) ∧ PySem.W.keepIn K (.ref f) = true ∧ L2.Binds K fd p_swapped_along [] := by
  obtain ⟨f, fd, d⟩ := Fx.d3
  exact ⟨f, fd, d.fn, PySem.W.mg_of X G d.at_, d.fn.kp, d.fn.binds (fun kV doc pm an cdv ct us hl => by match us, hl with | [u0, u1, u2], _ => rfl)⟩
theorem z_promotion_path (X : K.In h) (G : h.Ns mainGlobals mg) (Fx : Facts K) : ∃ (f : Addr) (fd : FuncData), Fun K "promotion_path" "promotion_path" (top 4) f fd ∧ mg "promotion_path" = some (.ref f) ∧ PySem.W.keepIn K (.ref f) = true ∧ L2.Binds K fd p_promotion_path [] := by
  obtain ⟨f, fd, d⟩ := Fx.d4
  exact ⟨f, fd, d.fn, PySem.W.mg_of X G d.at_, d.fn.kp, d.fn.binds (fun kV doc pm an cdv ct us hl => by match us, hl with | [u0, u1], _ => rfl)⟩
theorem z_promoted (X : K.In h) (G : h.Ns mainGlobals mg) (Fx : Facts K) : ∃ (f : Addr) (fd : FuncData), Fun K "promoted" "promoted" (top 5) f fd ∧ mg "promoted" = some (.ref f) ∧ PySem.W.keepIn K (.ref f) = true ∧ L2.Binds K fd p_promoted [] := by
  obtain ⟨f, fd, d⟩ := Fx.d5
  exact ⟨f, fd, d.fn, PySem.W.mg_of X G d.at_, d.fn.kp, d.fn.binds (fun kV doc pm an cdv ct us hl => by match us, hl with | [u0, u1], _ => rfl)⟩
theorem z_demoted (X : K.In h) (G : h.Ns mainGlobals mg) (Fx : Facts K) : ∃ (f : Addr) (fd : FuncData), Fun K "demoted" "demoted" (top 6) f fd ∧ mg "demoted" = some (.ref f) ∧ PySem.W.keepIn K (.ref f) = true ∧ L2.Binds K fd p_demoted [] := by
  obtain ⟨f, fd, d⟩ := Fx.d6
  exact ⟨f, fd, d.fn, PySem.W.mg_of X G d.at_, d.fn.kp, d.fn.binds (fun kV doc pm an cdv ct us hl => by match us, hl with | [u0, u1], _ => rfl)⟩
theorem z_promoted_often (X : K.In h) (G : h.Ns mainGlobals mg) (Fx : Facts K) : ∃ (f : Addr) (fd : FuncData), Fun K "promoted_often" "promoted_often" (top 7) f fd ∧ mg "promoted_often" = some (.ref f) ∧ PySem.W.keepIn K (.ref f) = true ∧ L2.Binds K fd p_promoted_often [] := by
  obtain ⟨f, fd, d⟩ := Fx.d7
  exact ⟨f, fd, d.fn, PySem.W.mg_of X G d.at_, d.fn.kp, d.fn.binds (fun kV doc pm an cdv ct us hl => by match us, hl with | [u0, u1, u2], _ => rfl)⟩
theorem z_evacuating_swaps (X : K.In h) (G : h.Ns mainGlobals mg) (Fx : Facts K) : ∃ (f : Addr) (fd : FuncData), Fun K "evacuating_swaps" "evacuating_swaps" (top 8) f fd ∧ mg "evacuating_swaps" = some (.ref f) ∧ PySem.W.keepIn K (.ref f) = true ∧ L2.Binds K fd p_evacuating_swaps [] := by
  obtain ⟨f, fd, d⟩ := Fx.d8
  exact ⟨f, fd, d.fn, PySem.W.mg_of X G d.at_, d.fn.kp, d.fn.binds (fun kV doc pm an cdv ct us hl => by match us, hl with | [u0], _ => rfl)⟩
theorem z_swaps_from_below (X : K.In h) (G : h.Ns mainGlobals mg) (Fx : Facts K) : ∃ (f : Addr) (fd : FuncData), Fun K "swaps_from_below" "swaps_from_below" (top 9) f fd ∧ mg "swaps_from_below" = some (.ref f) ∧ PySem.W.keepIn K (.ref f) = true ∧ L2.Binds K fd p_swaps_from_below [] := by
  obtain ⟨f, fd, d⟩ := Fx.d9
  exact ⟨f, fd, d.fn, PySem.W.mg_of X G d.at_, d.fn.kp, d.fn.binds (fun kV doc pm an cdv ct us hl => by match us, hl with | [u0], _ => rfl)⟩
theorem z_evacuated (X : K.In h) (G : h.Ns mainGlobals mg) (Fx : Facts K) : ∃ (f : Addr) (fd : FuncData), Fun K "evacuated" "evacuated" (top 10) f fd ∧ mg "evacuated" = some (.ref f) ∧ PySem.W.keepIn K (.ref f) = true ∧ L2.Binds K fd p_evacuated [] := by
  obtain ⟨f, fd, d⟩ := Fx.d10
  exact ⟨f, fd, d.fn, PySem.W.mg_of X G d.at_, d.fn.kp, d.fn.binds (fun kV doc pm an cdv ct us hl => by match us, hl with | [u0, u1], _ => rfl)⟩
theorem z_evacuated_below (X : K.In h) (G : h.Ns mainGlobals mg) (Fx : Facts K) : ∃ (f : Addr) (fd : FuncData), Fun K "evacuated_below" "evacuated_below" (top 11) f fd ∧ mg "evacuated_below" = some (.ref f) ∧ PySem.W.keepIn K (.ref f) = true ∧ L2.Binds K fd p_evacuated_below [] := by
  obtain ⟨f, fd, d⟩ := Fx.d11
  exact ⟨f, fd, d.fn, PySem.W.mg_of X G d.at_, d.fn.kp, d.fn.binds (fun kV doc pm an cdv ct us hl => by match us, hl with | [u0, u1], _ => rfl)⟩
theorem z__law_pick (X : K.In h) (G : h.Ns mainGlobals mg) (Fx : Facts K) : ∃ (f : Addr) (fd : FuncData), Fun K "_law_pick" "_law_pick" (top 14) f fd ∧ mg "_law_pick" = some (.ref f) ∧ PySem.W.keepIn K (.ref f) = true ∧ L2.Binds K fd p__law_pick [] := by
  obtain ⟨f, fd, d⟩ := Fx.d14
  exact ⟨f, fd, d.fn, PySem.W.mg_of X G d.at_, d.fn.kp, d.fn.binds (fun kV doc pm an cdv ct us hl => by match us, hl with | [u0, u1], _ => rfl)⟩
theorem z__law_of (X : K.In h) (G : h.Ns mainGlobals mg) (Fx : Facts K) : ∃ (f : Addr) (fd : FuncData), Fun K "_law_of" "_law_of" (top 15) f fd ∧ mg "_law_of" = some (.ref f) ∧ PySem.W.keepIn K (.ref f) = true ∧ L2.Binds K fd p__law_of [] := by
  obtain ⟨f, fd, d⟩ := Fx.d15
  exact ⟨f, fd, d.fn, PySem.W.mg_of X G d.at_, d.fn.kp, d.fn.binds (fun kV doc pm an cdv ct us hl => by match us, hl with | [u0, u1], _ => rfl)⟩
theorem z__law_mixed (X : K.In h) (G : h.Ns mainGlobals mg) (Fx : Facts K) : ∃ (f : Addr) (fd : FuncData), Fun K "_law_mixed" "_law_mixed" (top 16) f fd ∧ mg "_law_mixed" = some (.ref f) ∧ PySem.W.keepIn K (.ref f) = true ∧ L2.Binds K fd p__law_mixed [] := by
  obtain ⟨f, fd, d⟩ := Fx.d16
  exact ⟨f, fd, d.fn, PySem.W.mg_of X G d.at_, d.fn.kp, d.fn.binds (fun kV doc pm an cdv ct us hl => by match us, hl with | [u0, u1], _ => rfl)⟩
theorem z__law_order (X : K.In h) (G : h.Ns mainGlobals mg) (Fx : Facts K) : ∃ (f : Addr) (fd : FuncData), Fun K "_law_order" "_law_order" (top 17) f fd ∧ mg "_law_order" = some (.ref f) ∧ PySem.W.keepIn K (.ref f) = true ∧ L2.Binds K fd p__law_order [] := by
  obtain ⟨f, fd, d⟩ := Fx.d17
  exact ⟨f, fd, d.fn, PySem.W.mg_of X G d.at_, d.fn.kp, d.fn.binds (fun kV doc pm an cdv ct us hl => by match us, hl with | [u0, u1], _ => rfl)⟩
theorem z__law_is_list (X : K.In h) (G : h.Ns mainGlobals mg) (Fx : Facts K) : ∃ (f : Addr) (fd : FuncData), Fun K "_law_is_list" "_law_is_list" (top 18) f fd ∧ mg "_law_is_list" = some (.ref f) ∧ PySem.W.keepIn K (.ref f) = true ∧ L2.Binds K fd p__law_is_list [] := by
  obtain ⟨f, fd, d⟩ := Fx.d18
  exact ⟨f, fd, d.fn, PySem.W.mg_of X G d.at_, d.fn.kp, d.fn.binds (fun kV doc pm an cdv ct us hl => by match us, hl with | [u0, u1], _ => rfl)⟩
theorem z__law_swap (X : K.In h) (G : h.Ns mainGlobals mg) (Fx : Facts K) : ∃ (f : Addr) (fd : FuncData), Fun K "_law_swap" "_law_swap" (top 19) f fd ∧ mg "_law_swap" = some (.ref f) ∧ PySem.W.keepIn K (.ref f) = true ∧ L2.Binds K fd p__law_swap [] := by
  obtain ⟨f, fd, d⟩ := Fx.d19
  exact ⟨f, fd, d.fn, PySem.W.mg_of X G d.at_, d.fn.kp, d.fn.binds (fun kV doc pm an cdv ct us hl => by match us, hl with | [u0, u1, u2], _ => rfl)⟩
theorem z__law_along (X : K.In h) (G : h.Ns mainGlobals mg) (Fx : Facts K) : ∃ (f : Addr) (fd : FuncData), Fun K "_law_along" "_law_along" (top 20) f fd ∧ mg "_law_along" = some (.ref f) ∧ PySem.W.keepIn K (.ref f) = true ∧ L2.Binds K fd p__law_along [] := by
  obtain ⟨f, fd, d⟩ := Fx.d20
  exact ⟨f, fd, d.fn, PySem.W.mg_of X G d.at_, d.fn.kp, d.fn.binds (fun kV doc pm an cdv ct us hl => by match us, hl with | [u0, u1, u2], _ => rfl)⟩
theorem z__law_some_list (X : K.In h) (G : h.Ns mainGlobals mg) (Fx : Facts K) : ∃ (f : Addr) (fd : FuncData), Fun K "_law_some_list" "_law_some_list" (top 21) f fd ∧ mg "_law_some_list" = some (.ref f) ∧ PySem.W.keepIn K (.ref f) = true ∧ L2.Binds K fd p__law_some_list [] := by
  obtain ⟨f, fd, d⟩ := Fx.d21
  exact ⟨f, fd, d.fn, PySem.W.mg_of X G d.at_, d.fn.kp, d.fn.binds (fun kV doc pm an cdv ct us hl => by match us, hl with | [u0, u1], _ => rfl)⟩
theorem z__law_evacuated (X : K.In h) (G : h.Ns mainGlobals mg) (Fx : Facts K) : ∃ (f : Addr) (fd : FuncData), Fun K "_law_evacuated" "_law_evacuated" (top 22) f fd ∧ mg "_law_evacuated" = some (.ref f) ∧ PySem.W.keepIn K (.ref f) = true ∧ L2.Binds K fd p__law_evacuated [] := by
  obtain ⟨f, fd, d⟩ := Fx.d22
  exact ⟨f, fd, d.fn, PySem.W.mg_of X G d.at_, d.fn.kp, d.fn.binds (fun kV doc pm an cdv ct us hl => by match us, hl with | [u0, u1], _ => rfl)⟩
theorem z_src (X : K.In h) (G : h.Ns mainGlobals mg) (Fx : Facts K) : ∃ (f : Addr) (fd : FuncData), Fun K "_law_source" "_law_source" (top 13) f fd ∧ mg "_law_source" = some (.ref f) ∧ PySem.W.keepIn K (.ref f) = true ∧ L2.Binds K fd ["script"] [] := by
  obtain ⟨f, fd, d⟩ := Fx.d13
  exact ⟨f, fd, d.fn, PySem.W.mg_of X G d.at_, d.fn.kp, d.fn.binds (fun kV doc pm an cdv ct us hl => by match us, hl with | [u0], _ => rfl)⟩
theorem zs (X : K.In h) (G : h.Ns mainGlobals mg) (Fx : Facts K) : Zs mg := ⟨PySem.W.ns_none_of X G Fx.z_abs, PySem.W.ns_none_of X G Fx.z_dict, PySem.W.ns_none_of X G Fx.z_enumerate, PySem.W.ns_none_of X G Fx.z_int, PySem.W.ns_none_of X G Fx.z_len, PySem.W.ns_none_of X G Fx.z_list, PySem.W.ns_none_of X G Fx.z_min, PySem.W.ns_none_of X G Fx.z_range, PySem.W.ns_none_of X G Fx.z_repr, PySem.W.ns_none_of X G Fx.z_sorted, PySem.W.ns_none_of X G Fx.z_tuple⟩
theorem cals (X : K.In h) (G : h.Ns mainGlobals mg) (Fx : Facts K) (fuel : Nat) : ∀ k, Cals P w K mg base k (callF tb fuel k)
  | 0 => ⟨.zero (let ⟨f, fd, _, a, b, c⟩ := z_is_loose X G Fx; ⟨f, fd, p_is_loose, a, b, c⟩), .zero (let ⟨f, fd, _, a, b, c⟩ := z_swapped X G Fx; ⟨f, fd, p_swapped, a, b, c⟩), .zero (let ⟨f, fd, _, a, b, c⟩ := z_swapped_along X G Fx; ⟨f, fd, p_swapped_along, a, b, c⟩), .zero (let ⟨f, fd, _, a, b, c⟩ := z_promotion_path X G Fx; ⟨f, fd, p_promotion_path, a, b, c⟩), .zero (let ⟨f, fd, _, a, b, c⟩ := z_promoted X G Fx; ⟨f, fd, p_promoted, a, b, c⟩), .zero (let ⟨f, fd, _, a, b, c⟩ := z_demoted X G Fx; ⟨f, fd, p_demoted, a, b, c⟩), .zero (let ⟨f, fd, _, a, b, c⟩ := z_promoted_often X G Fx; ⟨f, fd, p_promoted_often, a, b, c⟩), .zero (let ⟨f, fd, _, a, b, c⟩ := z_evacuating_swaps X G Fx; ⟨f, fd, p_evacuating_swaps, a, b, c⟩), .zero (let ⟨f, fd, _, a, b, c⟩ := z_swaps_from_below X G Fx; ⟨f, fd, p_swaps_from_below, a, b, c⟩), .zero (let ⟨f, fd, _, a, b, c⟩ := z_evacuated X G Fx; ⟨f, fd, p_evacuated, a, b, c⟩), .zero (let ⟨f, fd, _, a, b, c⟩ := z_evacuated_below X G Fx; ⟨f, fd, p_evacuated_below, a, b, c⟩), .zero (let ⟨f, fd, _, a, b, c⟩ := z__law_pick X G Fx; ⟨f, fd, p__law_pick, a, b, c⟩), .zero (let ⟨f, fd, _, a, b, c⟩ := z__law_of X G Fx; ⟨f, fd, p__law_of, a, b, c⟩), .zero (let ⟨f, fd, _, a, b, c⟩ := z__law_mixed X G Fx; ⟨f, fd, p__law_mixed, a, b, c⟩), .zero (let ⟨f, fd, _, a, b, c⟩ := z__law_order X G Fx; ⟨f, fd, p__law_order, a, b, c⟩), .zero (let ⟨f, fd, _, a, b, c⟩ := z__law_is_list X G Fx; ⟨f, fd, p__law_is_list, a, b, c⟩), .zero (let ⟨f, fd, _, a, b, c⟩ := z__law_swap X G Fx; ⟨f, fd, p__law_swap, a, b, c⟩), .zero (let ⟨f, fd, _, a, b, c⟩ := z__law_along X G Fx; ⟨f, fd, p__law_along, a, b, c⟩), .zero (let ⟨f, fd, _, a, b, c⟩ := z__law_some_list X G Fx; ⟨f, fd, p__law_some_list, a, b, c⟩), .zero (let ⟨f, fd, _, a, b, c⟩ := z__law_evacuated X G Fx; ⟨f, fd, p__law_evacuated, a, b, c⟩)⟩
  | k + 1 => by
    have IH := cals X G Fx fuel k
    have z := zs X G Fx
    exact ⟨(let ⟨f, fd, F, a, b, c⟩ := z_is_loose X G Fx; ⟨f, fd, p_is_loose, fn_prom (b := d_is_loose) F sc_is_loose rfl rfl (fun cdv A outer s H hg hr => bd_is_loose IH z cdv A outer s H hg hr), fun _ _ _ e => (runF_split e).1, a, b, c⟩),
      (let ⟨f, fd, F, a, b, c⟩ := z_swapped X G Fx; ⟨f, fd, p_swapped, fn_prom (b := d_swapped) F sc_swapped rfl rfl (fun cdv A outer s H hg hr => bd_swapped IH z cdv A outer s H hg hr), fun _ _ _ e => (runF_split e).1, a, b, c⟩),
      (let ⟨f, fd, F, a, b, c⟩ := z_swapped_along X G Fx; ⟨f, fd, p_swapped_along, fn_prom (b := d_swapped_along) F sc_swapped_along rfl rfl (fun cdv A outer s H hg hr => bd_swapped_along IH z cdv A outer s H hg hr), fun _ _ _ e => (runF_split e).1, a, b, c⟩),
      (let ⟨f, fd, F, a, b, c⟩ := z_promotion_path X G Fx; ⟨f, fd, p_promotion_path, fn_prom (b := d_promotion_path) F sc_promotion_path rfl rfl (fun cdv A outer s H hg hr => bd_promotion_path IH z cdv A outer s H hg hr), fun _ _ _ e => (runF_split e).1, a, b, c⟩),
      (let ⟨f, fd, F, a, b, c⟩ := z_promoted X G Fx; ⟨f, fd, p_promoted, fn_prom (b := d_promoted) F sc_promoted rfl rfl (fun cdv A outer s H hg hr => bd_promoted IH z cdv A outer s H hg hr), fun _ _ _ e => (runF_split e).1, a, b, c⟩),
      (let ⟨f, fd, F, a, b, c⟩ := z_demoted X G Fx; ⟨f, fd, p_demoted, fn_prom (b := d_demoted) F sc_demoted rfl rfl (fun cdv A outer s H hg hr => bd_demoted IH z cdv A outer s H hg hr), fun _ _ _ e => (runF_split e).1, a, b, c⟩),
      (let ⟨f, fd, F, a, b, c⟩ := z_promoted_often X G Fx; ⟨f, fd, p_promoted_often, fn_prom (b := d_promoted_often) F sc_promoted_often rfl rfl (fun cdv A outer s H hg hr => bd_promoted_often IH z cdv A outer s H hg hr), fun _ _ _ e => (runF_split e).1, a, b, c⟩),
      (let ⟨f, fd, F, a, b, c⟩ := z_evacuating_swaps X G Fx; ⟨f, fd, p_evacuating_swaps, fn_prom (b := d_evacuating_swaps) F sc_evacuating_swaps rfl rfl (fun cdv A outer s H hg hr => bd_evacuating_swaps IH z cdv A outer s H hg hr), fun _ _ _ e => (runF_split e).1, a, b, c⟩),
      (let ⟨f, fd, F, a, b, c⟩ := z_swaps_from_below X G Fx; ⟨f, fd, p_swaps_from_below, fn_prom (b := d_swaps_from_below) F sc_swaps_from_below rfl rfl (fun cdv A outer s H hg hr => bd_swaps_from_below IH z cdv A outer s H hg hr), fun _ _ _ e => (runF_split e).1, a, b, c⟩),
      (let ⟨f, fd, F, a, b, c⟩ := z_evacuated X G Fx; ⟨f, fd, p_evacuated, fn_prom (b := d_evacuated) F sc_evacuated rfl rfl (fun cdv A outer s H hg hr => bd_evacuated IH z cdv A outer s H hg hr), fun _ _ _ e => (runF_split e).1, a, b, c⟩),
      (let ⟨f, fd, F, a, b, c⟩ := z_evacuated_below X G Fx; ⟨f, fd, p_evacuated_below, fn_prom (b := d_evacuated_below) F sc_evacuated_below rfl rfl (fun cdv A outer s H hg hr => bd_evacuated_below IH z cdv A outer s H hg hr), fun _ _ _ e => (runF_split e).1, a, b, c⟩),
      (let ⟨f, fd, F, a, b, c⟩ := z__law_pick X G Fx; ⟨f, fd, p__law_pick, fn_prom (b := d__law_pick) F sc__law_pick rfl rfl (fun cdv A outer s H hg hr => bd__law_pick IH z cdv A outer s H hg hr), fun _ _ _ e => (runF_split e).1, a, b, c⟩),
      (let ⟨f, fd, F, a, b, c⟩ := z__law_of X G Fx; ⟨f, fd, p__law_of, fn_prom (b := d__law_of) F sc__law_of rfl rfl (fun cdv A outer s H hg hr => bd__law_of IH z cdv A outer s H hg hr), fun _ _ _ e => (runF_split e).1, a, b, c⟩),
      (let ⟨f, fd, F, a, b, c⟩ := z__law_mixed X G Fx; ⟨f, fd, p__law_mixed, fn_prom (b := d__law_mixed) F sc__law_mixed rfl rfl (fun cdv A outer s H hg hr => bd__law_mixed IH z cdv A outer s H hg hr), fun _ _ _ e => (runF_split e).1, a, b, c⟩),
      (let ⟨f, fd, F, a, b, c⟩ := z__law_order X G Fx; ⟨f, fd, p__law_order, fn_prom (b := d__law_order) F sc__law_order rfl rfl (fun cdv A outer s H hg hr => bd__law_order IH z cdv A outer s H hg hr), fun _ _ _ e => (runF_split e).1, a, b, c⟩),
      (let ⟨f, fd, F, a, b, c⟩ := z__law_is_list X G Fx; ⟨f, fd, p__law_is_list, fn_prom (b := d__law_is_list) F sc__law_is_list rfl rfl (fun cdv A outer s H hg hr => bd__law_is_list IH z cdv A outer s H hg hr), fun _ _ _ e => (runF_split e).1, a, b, c⟩),
      (let ⟨f, fd, F, a, b, c⟩ := z__law_swap X G Fx; ⟨f, fd, p__law_swap, fn_prom (b := d__law_swap) F sc__law_swap rfl rfl (fun cdv A outer s H hg hr => bd__law_swap IH z cdv A outer s H hg hr), fun _ _ _ e => (runF_split e).1, a, b, c⟩),
      (let ⟨f, fd, F, a, b, c⟩ := z__law_along X G Fx; ⟨f, fd, p__law_along, fn_prom (b := d__law_along) F sc__law_along rfl rfl (fun cdv A outer s H hg hr => bd__law_along IH z cdv A outer s H hg hr), fun _ _ _ e => (runF_split e).1, a, b, c⟩),
      (let ⟨f, fd, F, a, b, c⟩ := z__law_some_list X G Fx; ⟨f, fd, p__law_some_list, fn_prom (b := d__law_some_list) F sc__law_some_list rfl rfl (fun cdv A outer s H hg hr => bd__law_some_list IH z cdv A outer s H hg hr), fun _ _ _ e => (runF_split e).1, a, b, c⟩),
      (let ⟨f, fd, F, a, b, c⟩ := z__law_evacuated X G Fx; ⟨f, fd, p__law_evacuated, fn_prom (b := d__law_evacuated) F sc__law_evacuated rfl rfl (fun cdv A outer s H hg hr => bd__law_evacuated IH z cdv A outer s H hg hr), fun _ _ _ e => (runF_split e).1, a, b, c⟩)⟩
theorem all_mk {l : PySem.W.OpenLaw} {fa : Addr} {fz : Bool} {fuel : Nat} (X : K.In h) (G : h.Ns mainGlobals mg) (hfa : mg "law" = some (.ref fa)) (Fx : Facts K) (pl : Plain fz 60 fuel) :
    ∃ fd : FuncData, (∀ (s : Shared) (v : Value), BindsTo s fd ⟨[v], []⟩ [("script", v)]) ∧ ∀ base : Heap, K.In base → base.Ns mainGlobals mg → FnG l.prog w K mg base 61 fa fd ["script"] (spLaw 63 K) := by
  obtain ⟨f, fd, d⟩ := Fx.d23
  have hf := PySem.W.mg_of X G d.at_
  rw [hfa] at hf
  cases hf
  obtain ⟨fs, fds, F, hms, hks, hbs⟩ := z_src X G Fx
  have hb := d.fn.binds (ps := ["script"]) (fun kV doc pm an cdv ct us hl => by match us, hl with | [u0], _ => rfl)
  obtain ⟨oc, od, kV, doc, pm, an, cdv, ct, osl, rfl, lk, hcd⟩ := d.fn.ex
  refine ⟨PySem.W.fnOf "law" "law" (defArgs (top 23)) (defBody (top 23)) (defScope (top 23)) .none kV doc pm an cdv ct, fun s v => .of_eq rfl, fun base X2 G2 => ?_⟩
  have z := zs X G Fx
  have IH := cals (P := l.prog) (w := w) (base := base) X G Fx fuel 60
  have Fs : FnG l.prog w K mg base 60 fs fds ["script"] (spSrc K) := fnG_of (k := 59) F sc_src (fun vs H Q ⟨a, ns, e, _⟩ => by rw [e]; rfl) fun cdv A outer s H vs Q hg hr h => ⟨_, bd_src z cdv A outer s H hg hr, src_run rfl h⟩
  exact fnG_of (k := 60) d.fn sc_law (fun vs H Q ⟨a, ns, e, _⟩ => by rw [e]; rfl) fun cdv A outer s H vs Q hg hr h => bd_law IH z pl Fs hms hks hbs cdv A outer s H vs Q hg hr h
end
end Toy
end

section
set_option linter.all false
set_option autoImplicit false
set_option maxRecDepth 10000
namespace Toy
open Rf
abbrev pr (p : Int × Int) : D := .tup [.int p.1, .int p.2]
abbrev ordD (n : Int) (ps : List (Int × Int)) : D := .tup [.int n, .tup (ps.map pr)]
abbrev rowD (r : List Int) : D := .tup (r.map .int)
def loose (ps : List (Int × Int)) (a b : Int) : Bool := !ps.contains (a, b) && !ps.contains (b, a)
theorem shp_pr (ps : List (Int × Int)) : D.shpL (ps.map pr) 60 = true := by
  induction ps with
  | nil => rfl
  | cons p r ih => simp only [List.map_cons, D.shpL, ih, Bool.and_true]; rfl
theorem in_pr (a b : Int) (ps : List (Int × Int)) : inD (.tup [.int a, .int b]) (.tup (ps.map pr)) = some (ps.contains (a, b)) := by
  simp only [inD, shp_pr]
  have : D.shp (.tup [.int a, .int b]) 60 = true := rfl
  rw [this]
  simp only [Bool.and_true, if_true, Option.some.injEq]
  induction ps with
  | nil => rfl
  | cons p r ih =>
    rw [List.map_cons, List.any_cons, ih, List.contains_cons]
    congr 1
    simp only [D.eqv, D.eqvL, Bool.and_true]
    obtain ⟨p1, p2⟩ := p
    rw [Bool.eq_iff_iff, Bool.and_eq_true, decide_eq_true_eq, decide_eq_true_eq, beq_iff_eq, Prod.mk.injEq]
    exact ⟨fun ⟨x, y⟩ => ⟨x.symm, y.symm⟩, fun ⟨x, y⟩ => ⟨x.symm, y.symm⟩⟩
theorem place_nat {n i : Nat} (h : i < n) : place n (i : Int) = some i := by unfold place; rw [if_pos (by omega), if_pos (by omega)]; simp
theorem place_neg1 {n : Nat} (h : 0 < n) : place n (-1) = some (n - 1) := by unfold place; rw [if_neg (by omega), if_pos (by omega)]; congr 1; omega
variable (cf : Cf) (F : Nat)
theorem loose_run (n : Int) (ps : List (Int × Int)) (a b : Int) (s : Sr) : runF cf F d_is_loose [ordD n ps, .int a, .int b] s = some (.bl (loose ps a b), s) := by
  simp only [run_f, s_st, s_nil', k_nx, k_rt, k_bk, k_ct, m_asg, m_asgO, m_asgT, m_par, m_set, m_app, m_expr, m_ite, m_for, m_ret, m_sput, m_sfill, v_var, v_bor, v_int, v_bl, v_str, v_non, v_sget, v_not, v_and, v_or, v_ife, v_tup, v_lst, v_dnew, v_call, v_bi, v_comp, o_nil', o_bor, e_nil, e_star, t_nil', t_ex, c_turn, asB, asI, isSrc, outR, bindT, bindTs, putsE, fr, szLine, List.length_cons, List.length_nil, List.map_cons, List.map_nil, List.cons_append, List.nil_append, List.append_nil, List.getElem?_cons_zero, List.getElem?_cons_succ, List.set_cons_zero, List.set_cons_succ, List.replicate_zero, List.replicate_succ, List.getD_cons_zero, Nat.reduceSub, Nat.reduceAdd, Option.bind_some, Option.bind_none, Option.map_some, if_true, if_false, Bool.and_true, Bool.true_and, Bool.not_true, Bool.not_false, Bool.or_true, Bool.true_or, Bool.false_or, Bool.or_false, Bool.and_false, Bool.false_and, Bool.and_self, Bool.or_self, Bool.false_eq_true, startE, reduceCtorEq, List.contains_nil, List.contains_cons, Nat.reduceBEq, ite_self, Nat.reduceLeDiff, Nat.reduceEqDiff, Int.reduceLE, Int.reduceLT, Int.reduceNeg, Int.reduceAdd, Int.reduceSub, ↓reduceIte, decide_true, decide_false, true_or, or_true, or_false, false_or, or_self, not_true_eq_false, not_false_eq_true, if_true, itemsL_, itemsT_, o_var_, e_var_, o_mv_, e_mv_, o_rel_, e_rel_, o_int_, e_int_, o_bl_, e_bl_, o_str_, e_str_, o_non_, e_non_, o_not_, e_not_, o_and_, e_and_, o_or_, e_or_, o_ife_, e_ife_, o_tup_, e_tup_, o_lst_, e_lst_, o_dnew_, e_dnew_, o_call_, e_call_, o_bi_, e_bi_, o_pop_, e_pop_, o_popAt_, e_popAt_, o_sget_, e_sget_, o_comp_, e_comp_, e_bor_, b_add_, b_addT_, b_addL_, b_sub_, b_mod_, b_fdiv_, b_cmp_, b_neg_, b_idxL_, b_idxT_, b_idxD_, b_slcTt_, b_slcTf_, b_slcLt_, b_slcLf_, b_revL_, b_lenL_, b_lenT_, b_abs_, b_toint_, b_totupL_, b_totupT_, b_tolstL_, b_tolstT_, b_repr_, b_lr1_, b_lr2_, b_lr3_, b_clt_, b_cle_, b_cgt_, b_cge_, b_ceq_, b_cne_, b_cin_, b_cni_, b_badbin_, b_badcmp_, b_wseqL_, b_wseqT_, b_wr1_, b_wr2_, b_wr3_, b_wenL_, b_wenT_, bad_neg_, bad_idx_, bad_rev_, bad_cnt_, bad_len_, bad_sum_, bad_max1_, bad_min1_, bad_max2_, bad_min2_, bad_abs_, bad_toint_, bad_totup_, bad_tolst_, bad_sorted_, bad_repr_, bad_mint_, bad_any_, bad_all_, bad_lrange1_, bad_lrange2_, bad_lrange3_, bad_slc_, bad_dict_, bad_ixL_, bad_ixT_, p20, p21, p10, p30, p31, p32, rd0_, rv0_, ro0_, rl0_, rd1_, rv1_, ro1_, rl1_, rd2_, rv2_, ro2_, rl2_, rd3_, rv3_, ro3_, rl3_, rd4_, rv4_, ro4_, rl4_, rd5_, rv5_, ro5_, rl5_, rd6_, rv6_, ro6_, rl6_, rd7_, rv7_, ro7_, rl7_, rd8_, rv8_, ro8_, rl8_, rd9_, rv9_, ro9_, rl9_, rd10_, rv10_, ro10_, rl10_, rd11_, rv11_, ro11_, rl11_, rd12_, rv12_, ro12_, rl12_, rd13_, rv13_, ro13_, rl13_, rd14_, rv14_, ro14_, rl14_, rd15_, rv15_, ro15_, rl15_, rd16_, rv16_, ro16_, rl16_, rd17_, rv17_, ro17_, rl17_, d_is_loose, b_is_loose, in_pr, loose]
  cases h1 : ps.contains (a, b) <;> cases h2 : ps.contains (b, a) <;> simp only [run_f, s_st, s_nil', k_nx, k_rt, k_bk, k_ct, m_asg, m_asgO, m_asgT, m_par, m_set, m_app, m_expr, m_ite, m_for, m_ret, m_sput, m_sfill, v_var, v_bor, v_int, v_bl, v_str, v_non, v_sget, v_not, v_and, v_or, v_ife, v_tup, v_lst, v_dnew, v_call, v_bi, v_comp, o_nil', o_bor, e_nil, e_star, t_nil', t_ex, c_turn, asB, asI, isSrc, outR, bindT, bindTs, putsE, fr, szLine, List.length_cons, List.length_nil, List.map_cons, List.map_nil, List.cons_append, List.nil_append, List.append_nil, List.getElem?_cons_zero, List.getElem?_cons_succ, List.set_cons_zero, List.set_cons_succ, List.replicate_zero, List.replicate_succ, List.getD_cons_zero, Nat.reduceSub, Nat.reduceAdd, Option.bind_some, Option.bind_none, Option.map_some, if_true, if_false, Bool.and_true, Bool.true_and, Bool.not_true, Bool.not_false, Bool.or_true, Bool.true_or, Bool.false_or, Bool.or_false, Bool.and_false, Bool.false_and, Bool.and_self, Bool.or_self, Bool.false_eq_true, startE, reduceCtorEq, List.contains_nil, List.contains_cons, Nat.reduceBEq, ite_self, Nat.reduceLeDiff, Nat.reduceEqDiff, Int.reduceLE, Int.reduceLT, Int.reduceNeg, Int.reduceAdd, Int.reduceSub, ↓reduceIte, decide_true, decide_false, true_or, or_true, or_false, false_or, or_self, not_true_eq_false, not_false_eq_true, if_true, itemsL_, itemsT_, o_var_, e_var_, o_mv_, e_mv_, o_rel_, e_rel_, o_int_, e_int_, o_bl_, e_bl_, o_str_, e_str_, o_non_, e_non_, o_not_, e_not_, o_and_, e_and_, o_or_, e_or_, o_ife_, e_ife_, o_tup_, e_tup_, o_lst_, e_lst_, o_dnew_, e_dnew_, o_call_, e_call_, o_bi_, e_bi_, o_pop_, e_pop_, o_popAt_, e_popAt_, o_sget_, e_sget_, o_comp_, e_comp_, e_bor_, b_add_, b_addT_, b_addL_, b_sub_, b_mod_, b_fdiv_, b_cmp_, b_neg_, b_idxL_, b_idxT_, b_idxD_, b_slcTt_, b_slcTf_, b_slcLt_, b_slcLf_, b_revL_, b_lenL_, b_lenT_, b_abs_, b_toint_, b_totupL_, b_totupT_, b_tolstL_, b_tolstT_, b_repr_, b_lr1_, b_lr2_, b_lr3_, b_clt_, b_cle_, b_cgt_, b_cge_, b_ceq_, b_cne_, b_cin_, b_cni_, b_badbin_, b_badcmp_, b_wseqL_, b_wseqT_, b_wr1_, b_wr2_, b_wr3_, b_wenL_, b_wenT_, bad_neg_, bad_idx_, bad_rev_, bad_cnt_, bad_len_, bad_sum_, bad_max1_, bad_min1_, bad_max2_, bad_min2_, bad_abs_, bad_toint_, bad_totup_, bad_tolst_, bad_sorted_, bad_repr_, bad_mint_, bad_any_, bad_all_, bad_lrange1_, bad_lrange2_, bad_lrange3_, bad_slc_, bad_dict_, bad_ixL_, bad_ixT_, p20, p21, p10, p30, p31, p32, rd0_, rv0_, ro0_, rl0_, rd1_, rv1_, ro1_, rl1_, rd2_, rv2_, ro2_, rl2_, rd3_, rv3_, ro3_, rl3_, rd4_, rv4_, ro4_, rl4_, rd5_, rv5_, ro5_, rl5_, rd6_, rv6_, ro6_, rl6_, rd7_, rv7_, ro7_, rl7_, rd8_, rv8_, ro8_, rl8_, rd9_, rv9_, ro9_, rl9_, rd10_, rv10_, ro10_, rl10_, rd11_, rv11_, ro11_, rl11_, rd12_, rv12_, ro12_, rl12_, rd13_, rv13_, ro13_, rl13_, rd14_, rv14_, ro14_, rl14_, rd15_, rv15_, ro15_, rl15_, rd16_, rv16_, ro16_, rl16_, rd17_, rv17_, ro17_, rl17_, in_pr, h1, h2]
def swapR (ps : List (Int × Int)) (r : List Int) (i : Nat) : List Int :=
  if loose ps (r.getD i 0) (r.getD (i + 1) 0) then r.take i ++ r.getD (i + 1) 0 :: r.getD i 0 :: r.drop (i + 2) else r
theorem row_get {r : List Int} {i : Nat} (h : i < r.length) : (r.map D.int)[i]? = some (.int (r.getD i 0)) := by
  rw [List.getElem?_map, List.getElem?_eq_getElem h, List.getD_eq_getElem?_getD, List.getElem?_eq_getElem h]; rfl
theorem slc_to {r : List Int} {i : Nat} (h : i ≤ r.length) : cutL (r.map D.int) none (some (i : Int)) = (r.take i).map .int := by
  unfold cutL cutAt
  simp only [List.drop_zero, List.length_map, Nat.sub_zero]
  rw [if_neg (by omega), Int.toNat_natCast, Nat.min_eq_left h, List.map_take]
theorem slc_from {r : List Int} {i : Nat} (h : i ≤ r.length) : cutL (r.map D.int) (some (i : Int)) none = (r.drop i).map .int := by
  unfold cutL cutAt
  simp only [List.length_map]
  rw [if_neg (by omega), Int.toNat_natCast, Nat.min_eq_left h, List.take_of_length_le (by simp), List.map_drop]
theorem swapped_run (n : Int) (ps : List (Int × Int)) (r : List Int) (i : Nat) (s : Sr) (hi : i + 1 < r.length) (hr : r.length ≤ 1000) (hc : ∀ a b s, cf 0 [ordD n ps, .int a, .int b] s = some (.bl (loose ps a b), s)) :
    runF cf F d_swapped [ordD n ps, rowD r, .int i] s = some (rowD (swapR ps r i), s) := by
  have e1 : (i : Int) + 1 = ((i + 1 : Nat) : Int) := by omega
  have e2 : (i : Int) + 2 = ((i + 2 : Nat) : Int) := by omega
  simp only [run_f, s_st, s_nil', k_nx, k_rt, k_bk, k_ct, m_asg, m_asgO, m_asgT, m_par, m_set, m_app, m_expr, m_ite, m_for, m_ret, m_sput, m_sfill, v_var, v_bor, v_int, v_bl, v_str, v_non, v_sget, v_not, v_and, v_or, v_ife, v_tup, v_lst, v_dnew, v_call, v_bi, v_comp, o_nil', o_bor, e_nil, e_star, t_nil', t_ex, c_turn, asB, asI, isSrc, outR, bindT, bindTs, putsE, fr, szLine, List.length_cons, List.length_nil, List.map_cons, List.map_nil, List.cons_append, List.nil_append, List.append_nil, List.getElem?_cons_zero, List.getElem?_cons_succ, List.set_cons_zero, List.set_cons_succ, List.replicate_zero, List.replicate_succ, List.getD_cons_zero, Nat.reduceSub, Nat.reduceAdd, Option.bind_some, Option.bind_none, Option.map_some, if_true, if_false, Bool.and_true, Bool.true_and, Bool.not_true, Bool.not_false, Bool.or_true, Bool.true_or, Bool.false_or, Bool.or_false, Bool.and_false, Bool.false_and, Bool.and_self, Bool.or_self, Bool.false_eq_true, startE, reduceCtorEq, List.contains_nil, List.contains_cons, Nat.reduceBEq, ite_self, Nat.reduceLeDiff, Nat.reduceEqDiff, Int.reduceLE, Int.reduceLT, Int.reduceNeg, Int.reduceAdd, Int.reduceSub, ↓reduceIte, decide_true, decide_false, true_or, or_true, or_false, false_or, or_self, not_true_eq_false, not_false_eq_true, if_true, itemsL_, itemsT_, o_var_, e_var_, o_mv_, e_mv_, o_rel_, e_rel_, o_int_, e_int_, o_bl_, e_bl_, o_str_, e_str_, o_non_, e_non_, o_not_, e_not_, o_and_, e_and_, o_or_, e_or_, o_ife_, e_ife_, o_tup_, e_tup_, o_lst_, e_lst_, o_dnew_, e_dnew_, o_call_, e_call_, o_bi_, e_bi_, o_pop_, e_pop_, o_popAt_, e_popAt_, o_sget_, e_sget_, o_comp_, e_comp_, e_bor_, b_add_, b_addT_, b_addL_, b_sub_, b_mod_, b_fdiv_, b_cmp_, b_neg_, b_idxL_, b_idxT_, b_idxD_, b_slcTt_, b_slcTf_, b_slcLt_, b_slcLf_, b_revL_, b_lenL_, b_lenT_, b_abs_, b_toint_, b_totupL_, b_totupT_, b_tolstL_, b_tolstT_, b_repr_, b_lr1_, b_lr2_, b_lr3_, b_clt_, b_cle_, b_cgt_, b_cge_, b_ceq_, b_cne_, b_cin_, b_cni_, b_badbin_, b_badcmp_, b_wseqL_, b_wseqT_, b_wr1_, b_wr2_, b_wr3_, b_wenL_, b_wenT_, bad_neg_, bad_idx_, bad_rev_, bad_cnt_, bad_len_, bad_sum_, bad_max1_, bad_min1_, bad_max2_, bad_min2_, bad_abs_, bad_toint_, bad_totup_, bad_tolst_, bad_sorted_, bad_repr_, bad_mint_, bad_any_, bad_all_, bad_lrange1_, bad_lrange2_, bad_lrange3_, bad_slc_, bad_dict_, bad_ixL_, bad_ixT_, p20, p21, p10, p30, p31, p32, rd0_, rv0_, ro0_, rl0_, rd1_, rv1_, ro1_, rl1_, rd2_, rv2_, ro2_, rl2_, rd3_, rv3_, ro3_, rl3_, rd4_, rv4_, ro4_, rl4_, rd5_, rv5_, ro5_, rl5_, rd6_, rv6_, ro6_, rl6_, rd7_, rv7_, ro7_, rl7_, rd8_, rv8_, ro8_, rl8_, rd9_, rv9_, ro9_, rl9_, rd10_, rv10_, ro10_, rl10_, rd11_, rv11_, ro11_, rl11_, rd12_, rv12_, ro12_, rl12_, rd13_, rv13_, ro13_, rl13_, rd14_, rv14_, ro14_, rl14_, rd15_, rv15_, ro15_, rl15_, rd16_, rv16_, ro16_, rl16_, rd17_, rv17_, ro17_, rl17_, d_swapped, b_swapped, e1, e2, List.length_map, place_nat (show i < r.length by omega), place_nat hi, row_get hi, row_get (show i < r.length by omega), slcD, partD, slc_to (show i ≤ r.length by omega), slc_from (show i + 2 ≤ r.length by omega), hc]
  unfold swapR
  cases loose ps (r.getD i 0) (r.getD (i + 1) 0)
  · simp only [run_f, s_st, s_nil', k_nx, k_rt, k_bk, k_ct, m_asg, m_asgO, m_asgT, m_par, m_set, m_app, m_expr, m_ite, m_for, m_ret, m_sput, m_sfill, v_var, v_bor, v_int, v_bl, v_str, v_non, v_sget, v_not, v_and, v_or, v_ife, v_tup, v_lst, v_dnew, v_call, v_bi, v_comp, o_nil', o_bor, e_nil, e_star, t_nil', t_ex, c_turn, asB, asI, isSrc, outR, bindT, bindTs, putsE, fr, szLine, List.length_cons, List.length_nil, List.map_cons, List.map_nil, List.cons_append, List.nil_append, List.append_nil, List.getElem?_cons_zero, List.getElem?_cons_succ, List.set_cons_zero, List.set_cons_succ, List.replicate_zero, List.replicate_succ, List.getD_cons_zero, Nat.reduceSub, Nat.reduceAdd, Option.bind_some, Option.bind_none, Option.map_some, if_true, if_false, Bool.and_true, Bool.true_and, Bool.not_true, Bool.not_false, Bool.or_true, Bool.true_or, Bool.false_or, Bool.or_false, Bool.and_false, Bool.false_and, Bool.and_self, Bool.or_self, Bool.false_eq_true, startE, reduceCtorEq, List.contains_nil, List.contains_cons, Nat.reduceBEq, ite_self, Nat.reduceLeDiff, Nat.reduceEqDiff, Int.reduceLE, Int.reduceLT, Int.reduceNeg, Int.reduceAdd, Int.reduceSub, ↓reduceIte, decide_true, decide_false, true_or, or_true, or_false, false_or, or_self, not_true_eq_false, not_false_eq_true, if_true, itemsL_, itemsT_, o_var_, e_var_, o_mv_, e_mv_, o_rel_, e_rel_, o_int_, e_int_, o_bl_, e_bl_, o_str_, e_str_, o_non_, e_non_, o_not_, e_not_, o_and_, e_and_, o_or_, e_or_, o_ife_, e_ife_, o_tup_, e_tup_, o_lst_, e_lst_, o_dnew_, e_dnew_, o_call_, e_call_, o_bi_, e_bi_, o_pop_, e_pop_, o_popAt_, e_popAt_, o_sget_, e_sget_, o_comp_, e_comp_, e_bor_, b_add_, b_addT_, b_addL_, b_sub_, b_mod_, b_fdiv_, b_cmp_, b_neg_, b_idxL_, b_idxT_, b_idxD_, b_slcTt_, b_slcTf_, b_slcLt_, b_slcLf_, b_revL_, b_lenL_, b_lenT_, b_abs_, b_toint_, b_totupL_, b_totupT_, b_tolstL_, b_tolstT_, b_repr_, b_lr1_, b_lr2_, b_lr3_, b_clt_, b_cle_, b_cgt_, b_cge_, b_ceq_, b_cne_, b_cin_, b_cni_, b_badbin_, b_badcmp_, b_wseqL_, b_wseqT_, b_wr1_, b_wr2_, b_wr3_, b_wenL_, b_wenT_, bad_neg_, bad_idx_, bad_rev_, bad_cnt_, bad_len_, bad_sum_, bad_max1_, bad_min1_, bad_max2_, bad_min2_, bad_abs_, bad_toint_, bad_totup_, bad_tolst_, bad_sorted_, bad_repr_, bad_mint_, bad_any_, bad_all_, bad_lrange1_, bad_lrange2_, bad_lrange3_, bad_slc_, bad_dict_, bad_ixL_, bad_ixT_, p20, p21, p10, p30, p31, p32, rd0_, rv0_, ro0_, rl0_, rd1_, rv1_, ro1_, rl1_, rd2_, rv2_, ro2_, rl2_, rd3_, rv3_, ro3_, rl3_, rd4_, rv4_, ro4_, rl4_, rd5_, rv5_, ro5_, rl5_, rd6_, rv6_, ro6_, rl6_, rd7_, rv7_, ro7_, rl7_, rd8_, rv8_, ro8_, rl8_, rd9_, rv9_, ro9_, rl9_, rd10_, rv10_, ro10_, rl10_, rd11_, rv11_, ro11_, rl11_, rd12_, rv12_, ro12_, rl12_, rd13_, rv13_, ro13_, rl13_, rd14_, rv14_, ro14_, rl14_, rd15_, rv15_, ro15_, rl15_, rd16_, rv16_, ro16_, rl16_, rd17_, rv17_, ro17_, rl17_]
  · simp only [run_f, s_st, s_nil', k_nx, k_rt, k_bk, k_ct, m_asg, m_asgO, m_asgT, m_par, m_set, m_app, m_expr, m_ite, m_for, m_ret, m_sput, m_sfill, v_var, v_bor, v_int, v_bl, v_str, v_non, v_sget, v_not, v_and, v_or, v_ife, v_tup, v_lst, v_dnew, v_call, v_bi, v_comp, o_nil', o_bor, e_nil, e_star, t_nil', t_ex, c_turn, asB, asI, isSrc, outR, bindT, bindTs, putsE, fr, szLine, List.length_cons, List.length_nil, List.map_cons, List.map_nil, List.cons_append, List.nil_append, List.append_nil, List.getElem?_cons_zero, List.getElem?_cons_succ, List.set_cons_zero, List.set_cons_succ, List.replicate_zero, List.replicate_succ, List.getD_cons_zero, Nat.reduceSub, Nat.reduceAdd, Option.bind_some, Option.bind_none, Option.map_some, if_true, if_false, Bool.and_true, Bool.true_and, Bool.not_true, Bool.not_false, Bool.or_true, Bool.true_or, Bool.false_or, Bool.or_false, Bool.and_false, Bool.false_and, Bool.and_self, Bool.or_self, Bool.false_eq_true, startE, reduceCtorEq, List.contains_nil, List.contains_cons, Nat.reduceBEq, ite_self, Nat.reduceLeDiff, Nat.reduceEqDiff, Int.reduceLE, Int.reduceLT, Int.reduceNeg, Int.reduceAdd, Int.reduceSub, ↓reduceIte, decide_true, decide_false, true_or, or_true, or_false, false_or, or_self, not_true_eq_false, not_false_eq_true, if_true, itemsL_, itemsT_, o_var_, e_var_, o_mv_, e_mv_, o_rel_, e_rel_, o_int_, e_int_, o_bl_, e_bl_, o_str_, e_str_, o_non_, e_non_, o_not_, e_not_, o_and_, e_and_, o_or_, e_or_, o_ife_, e_ife_, o_tup_, e_tup_, o_lst_, e_lst_, o_dnew_, e_dnew_, o_call_, e_call_, o_bi_, e_bi_, o_pop_, e_pop_, o_popAt_, e_popAt_, o_sget_, e_sget_, o_comp_, e_comp_, e_bor_, b_add_, b_addT_, b_addL_, b_sub_, b_mod_, b_fdiv_, b_cmp_, b_neg_, b_idxL_, b_idxT_, b_idxD_, b_slcTt_, b_slcTf_, b_slcLt_, b_slcLf_, b_revL_, b_lenL_, b_lenT_, b_abs_, b_toint_, b_totupL_, b_totupT_, b_tolstL_, b_tolstT_, b_repr_, b_lr1_, b_lr2_, b_lr3_, b_clt_, b_cle_, b_cgt_, b_cge_, b_ceq_, b_cne_, b_cin_, b_cni_, b_badbin_, b_badcmp_, b_wseqL_, b_wseqT_, b_wr1_, b_wr2_, b_wr3_, b_wenL_, b_wenT_, bad_neg_, bad_idx_, bad_rev_, bad_cnt_, bad_len_, bad_sum_, bad_max1_, bad_min1_, bad_max2_, bad_min2_, bad_abs_, bad_toint_, bad_totup_, bad_tolst_, bad_sorted_, bad_repr_, bad_mint_, bad_any_, bad_all_, bad_lrange1_, bad_lrange2_, bad_lrange3_, bad_slc_, bad_dict_, bad_ixL_, bad_ixT_, p20, p21, p10, p30, p31, p32, rd0_, rv0_, ro0_, rl0_, rd1_, rv1_, ro1_, rl1_, rd2_, rv2_, ro2_, rl2_, rd3_, rv3_, ro3_, rl3_, rd4_, rv4_, ro4_, rl4_, rd5_, rv5_, ro5_, rl5_, rd6_, rv6_, ro6_, rl6_, rd7_, rv7_, ro7_, rl7_, rd8_, rv8_, ro8_, rl8_, rd9_, rv9_, ro9_, rl9_, rd10_, rv10_, ro10_, rl10_, rd11_, rv11_, ro11_, rl11_, rd12_, rv12_, ro12_, rl12_, rd13_, rv13_, ro13_, rl13_, rd14_, rv14_, ro14_, rl14_, rd15_, rv15_, ro15_, rl15_, rd16_, rv16_, ro16_, rl16_, rd17_, rv17_, ro17_, rl17_]
    have hl : (List.map D.int (List.take i r) ++ D.int (r.getD (i + 1) 0) :: D.int (r.getD i 0) :: List.map D.int (List.drop (i + 2) r)).length ≤ 16777216 := by
      simp only [List.length_append, List.length_map, List.length_take, List.length_cons, List.length_drop]; omega
    simp only [hl, run_f, s_st, s_nil', k_nx, k_rt, k_bk, k_ct, m_asg, m_asgO, m_asgT, m_par, m_set, m_app, m_expr, m_ite, m_for, m_ret, m_sput, m_sfill, v_var, v_bor, v_int, v_bl, v_str, v_non, v_sget, v_not, v_and, v_or, v_ife, v_tup, v_lst, v_dnew, v_call, v_bi, v_comp, o_nil', o_bor, e_nil, e_star, t_nil', t_ex, c_turn, asB, asI, isSrc, outR, bindT, bindTs, putsE, fr, szLine, List.length_cons, List.length_nil, List.map_cons, List.map_nil, List.cons_append, List.nil_append, List.append_nil, List.getElem?_cons_zero, List.getElem?_cons_succ, List.set_cons_zero, List.set_cons_succ, List.replicate_zero, List.replicate_succ, List.getD_cons_zero, Nat.reduceSub, Nat.reduceAdd, Option.bind_some, Option.bind_none, Option.map_some, if_true, if_false, Bool.and_true, Bool.true_and, Bool.not_true, Bool.not_false, Bool.or_true, Bool.true_or, Bool.false_or, Bool.or_false, Bool.and_false, Bool.false_and, Bool.and_self, Bool.or_self, Bool.false_eq_true, startE, reduceCtorEq, List.contains_nil, List.contains_cons, Nat.reduceBEq, ite_self, Nat.reduceLeDiff, Nat.reduceEqDiff, Int.reduceLE, Int.reduceLT, Int.reduceNeg, Int.reduceAdd, Int.reduceSub, ↓reduceIte, decide_true, decide_false, true_or, or_true, or_false, false_or, or_self, not_true_eq_false, not_false_eq_true, if_true, itemsL_, itemsT_, o_var_, e_var_, o_mv_, e_mv_, o_rel_, e_rel_, o_int_, e_int_, o_bl_, e_bl_, o_str_, e_str_, o_non_, e_non_, o_not_, e_not_, o_and_, e_and_, o_or_, e_or_, o_ife_, e_ife_, o_tup_, e_tup_, o_lst_, e_lst_, o_dnew_, e_dnew_, o_call_, e_call_, o_bi_, e_bi_, o_pop_, e_pop_, o_popAt_, e_popAt_, o_sget_, e_sget_, o_comp_, e_comp_, e_bor_, b_add_, b_addT_, b_addL_, b_sub_, b_mod_, b_fdiv_, b_cmp_, b_neg_, b_idxL_, b_idxT_, b_idxD_, b_slcTt_, b_slcTf_, b_slcLt_, b_slcLf_, b_revL_, b_lenL_, b_lenT_, b_abs_, b_toint_, b_totupL_, b_totupT_, b_tolstL_, b_tolstT_, b_repr_, b_lr1_, b_lr2_, b_lr3_, b_clt_, b_cle_, b_cgt_, b_cge_, b_ceq_, b_cne_, b_cin_, b_cni_, b_badbin_, b_badcmp_, b_wseqL_, b_wseqT_, b_wr1_, b_wr2_, b_wr3_, b_wenL_, b_wenT_, bad_neg_, bad_idx_, bad_rev_, bad_cnt_, bad_len_, bad_sum_, bad_max1_, bad_min1_, bad_max2_, bad_min2_, bad_abs_, bad_toint_, bad_totup_, bad_tolst_, bad_sorted_, bad_repr_, bad_mint_, bad_any_, bad_all_, bad_lrange1_, bad_lrange2_, bad_lrange3_, bad_slc_, bad_dict_, bad_ixL_, bad_ixT_, p20, p21, p10, p30, p31, p32, rd0_, rv0_, ro0_, rl0_, rd1_, rv1_, ro1_, rl1_, rd2_, rv2_, ro2_, rl2_, rd3_, rv3_, ro3_, rl3_, rd4_, rv4_, ro4_, rl4_, rd5_, rv5_, ro5_, rl5_, rd6_, rv6_, ro6_, rl6_, rd7_, rv7_, ro7_, rl7_, rd8_, rv8_, ro8_, rl8_, rd9_, rv9_, ro9_, rl9_, rd10_, rv10_, ro10_, rl10_, rd11_, rv11_, ro11_, rl11_, rd12_, rv12_, ro12_, rl12_, rd13_, rv13_, ro13_, rl13_, rd14_, rv14_, ro14_, rl14_, rd15_, rv15_, ro15_, rl15_, rd16_, rv16_, ro16_, rl16_, rd17_, rv17_, ro17_, rl17_, List.map_append, List.map_cons, rowD]
theorem swapR_length (ps : List (Int × Int)) (r : List Int) (i : Nat) (h : i + 1 < r.length) : (swapR ps r i).length = r.length := by
  unfold swapR
  split
  · simp only [List.length_append, List.length_take, List.length_cons, List.length_drop]; omega
  · rfl
/-- many swaps -/
def alongR (ps : List (Int × Int)) (r : List Int) (ks : List Nat) : List Int := ks.foldl (swapR ps) r
abbrev natsD (ks : List Nat) : List D := ks.map fun (k : Nat) => D.int (k : Int)
theorem bind_nm {i : Nat} {x : D} {env : Env} (h : ∀ d, env[i]? ≠ some (some (true, d))) : bindT (.nm i) x env = some (env.set i (some (false, x))) := by
  unfold bindT
  split
  · rename_i d e; exact absurd e (h d)
  · rfl
theorem along_for (n : Int) (ps : List (Int × Int)) (m : Nat) (hm : m ≤ 1000) (hc : ∀ (r : List Int) (i : Nat) s, i + 1 < r.length → r.length = m → cf 1 [ordD n ps, rowD r, .int i] s = some (rowD (swapR ps r i), s)) (x : D) (ff : Bool) :
    ∀ (ks : List Nat) (r : List Int) (y : Option (Bool × D)) (s : Sr), (∀ k ∈ ks, k + 1 < m) → r.length = m → (∀ d, y ≠ some (true, d)) → ∃ y', forT (forB cf ff F (.nm 3) [.asg 1 (.call 1 false [.var 0, .var 1, .var 3])]) (natsD ks) [some (false, ordD n ps), some (false, rowD r), some (false, x), y] s =
      some (.nx [some (false, ordD n ps), some (false, rowD (alongR ps r ks)), some (false, x), y'] s)
  | [], r, y, s, _, _, _ => ⟨y, rfl⟩
  | k :: ks, r, y, s, hk, hr, hy => by
    have h1 := hk k List.mem_cons_self
    have h2 := hc r k s (by omega) hr
    obtain ⟨y', ih⟩ := along_for n ps m hm hc x ff ks (swapR ps r k) (some (false, .int (k : Int))) s (fun j hj => hk j (List.mem_cons_of_mem _ hj)) (by rw [swapR_length ps r k (by omega), hr]) (fun d h => by cases h)
    refine ⟨y', (f_step ?_).trans ih⟩
    unfold forB
    rw [bind_nm (fun d h => hy d (by simpa using h))]
    simp only [run_f, s_st, s_nil', k_nx, k_rt, k_bk, k_ct, m_asg, m_asgO, m_asgT, m_par, m_set, m_app, m_expr, m_ite, m_for, m_ret, m_sput, m_sfill, v_var, v_bor, v_int, v_bl, v_str, v_non, v_sget, v_not, v_and, v_or, v_ife, v_tup, v_lst, v_dnew, v_call, v_bi, v_comp, o_nil', o_bor, e_nil, e_star, t_nil', t_ex, c_turn, asB, asI, isSrc, outR, bindT, bindTs, putsE, fr, szLine, List.length_cons, List.length_nil, List.map_cons, List.map_nil, List.cons_append, List.nil_append, List.append_nil, List.getElem?_cons_zero, List.getElem?_cons_succ, List.set_cons_zero, List.set_cons_succ, List.replicate_zero, List.replicate_succ, List.getD_cons_zero, Nat.reduceSub, Nat.reduceAdd, Option.bind_some, Option.bind_none, Option.map_some, if_true, if_false, Bool.and_true, Bool.true_and, Bool.not_true, Bool.not_false, Bool.or_true, Bool.true_or, Bool.false_or, Bool.or_false, Bool.and_false, Bool.false_and, Bool.and_self, Bool.or_self, Bool.false_eq_true, startE, reduceCtorEq, List.contains_nil, List.contains_cons, Nat.reduceBEq, ite_self, Nat.reduceLeDiff, Nat.reduceEqDiff, Int.reduceLE, Int.reduceLT, Int.reduceNeg, Int.reduceAdd, Int.reduceSub, ↓reduceIte, decide_true, decide_false, true_or, or_true, or_false, false_or, or_self, not_true_eq_false, not_false_eq_true, if_true, itemsL_, itemsT_, o_var_, e_var_, o_mv_, e_mv_, o_rel_, e_rel_, o_int_, e_int_, o_bl_, e_bl_, o_str_, e_str_, o_non_, e_non_, o_not_, e_not_, o_and_, e_and_, o_or_, e_or_, o_ife_, e_ife_, o_tup_, e_tup_, o_lst_, e_lst_, o_dnew_, e_dnew_, o_call_, e_call_, o_bi_, e_bi_, o_pop_, e_pop_, o_popAt_, e_popAt_, o_sget_, e_sget_, o_comp_, e_comp_, e_bor_, b_add_, b_addT_, b_addL_, b_sub_, b_mod_, b_fdiv_, b_cmp_, b_neg_, b_idxL_, b_idxT_, b_idxD_, b_slcTt_, b_slcTf_, b_slcLt_, b_slcLf_, b_revL_, b_lenL_, b_lenT_, b_abs_, b_toint_, b_totupL_, b_totupT_, b_tolstL_, b_tolstT_, b_repr_, b_lr1_, b_lr2_, b_lr3_, b_clt_, b_cle_, b_cgt_, b_cge_, b_ceq_, b_cne_, b_cin_, b_cni_, b_badbin_, b_badcmp_, b_wseqL_, b_wseqT_, b_wr1_, b_wr2_, b_wr3_, b_wenL_, b_wenT_, bad_neg_, bad_idx_, bad_rev_, bad_cnt_, bad_len_, bad_sum_, bad_max1_, bad_min1_, bad_max2_, bad_min2_, bad_abs_, bad_toint_, bad_totup_, bad_tolst_, bad_sorted_, bad_repr_, bad_mint_, bad_any_, bad_all_, bad_lrange1_, bad_lrange2_, bad_lrange3_, bad_slc_, bad_dict_, bad_ixL_, bad_ixT_, p20, p21, p10, p30, p31, p32, rd0_, rv0_, ro0_, rl0_, rd1_, rv1_, ro1_, rl1_, rd2_, rv2_, ro2_, rl2_, rd3_, rv3_, ro3_, rl3_, rd4_, rv4_, ro4_, rl4_, rd5_, rv5_, ro5_, rl5_, rd6_, rv6_, ro6_, rl6_, rd7_, rv7_, ro7_, rl7_, rd8_, rv8_, ro8_, rl8_, rd9_, rv9_, ro9_, rl9_, rd10_, rv10_, ro10_, rl10_, rd11_, rv11_, ro11_, rl11_, rd12_, rv12_, ro12_, rl12_, rd13_, rv13_, ro13_, rl13_, rd14_, rv14_, ro14_, rl14_, rd15_, rv15_, ro15_, rl15_, rd16_, rv16_, ro16_, rl16_, rd17_, rv17_, ro17_, rl17_, h2]
theorem along_run (n : Int) (ps : List (Int × Int)) (m : Nat) (hm : m ≤ 1000) (hc : ∀ (r : List Int) (i : Nat) s, i + 1 < r.length → r.length = m → cf 1 [ordD n ps, rowD r, .int i] s = some (rowD (swapR ps r i), s)) (x : D) (ks : List Nat) (hx : D.items x = some (natsD ks)) (r : List Int) (s : Sr) (hk : ∀ k ∈ ks, k + 1 < m) (hr : r.length = m) :
    runF cf F d_swapped_along [ordD n ps, rowD r, x] s = some (rowD (alongR ps r ks), s) := by
  obtain ⟨y', h⟩ := along_for cf F n ps m hm hc x false ks r none s hk hr (fun d h => by cases h)
  simp only [run_f, s_st, s_nil', k_nx, k_rt, k_bk, k_ct, m_asg, m_asgO, m_asgT, m_par, m_set, m_app, m_expr, m_ite, m_for, m_ret, m_sput, m_sfill, v_var, v_bor, v_int, v_bl, v_str, v_non, v_sget, v_not, v_and, v_or, v_ife, v_tup, v_lst, v_dnew, v_call, v_bi, v_comp, o_nil', o_bor, e_nil, e_star, t_nil', t_ex, c_turn, asB, asI, isSrc, outR, bindT, bindTs, putsE, fr, szLine, List.length_cons, List.length_nil, List.map_cons, List.map_nil, List.cons_append, List.nil_append, List.append_nil, List.getElem?_cons_zero, List.getElem?_cons_succ, List.set_cons_zero, List.set_cons_succ, List.replicate_zero, List.replicate_succ, List.getD_cons_zero, Nat.reduceSub, Nat.reduceAdd, Option.bind_some, Option.bind_none, Option.map_some, if_true, if_false, Bool.and_true, Bool.true_and, Bool.not_true, Bool.not_false, Bool.or_true, Bool.true_or, Bool.false_or, Bool.or_false, Bool.and_false, Bool.false_and, Bool.and_self, Bool.or_self, Bool.false_eq_true, startE, reduceCtorEq, List.contains_nil, List.contains_cons, Nat.reduceBEq, ite_self, Nat.reduceLeDiff, Nat.reduceEqDiff, Int.reduceLE, Int.reduceLT, Int.reduceNeg, Int.reduceAdd, Int.reduceSub, ↓reduceIte, decide_true, decide_false, true_or, or_true, or_false, false_or, or_self, not_true_eq_false, not_false_eq_true, if_true, itemsL_, itemsT_, o_var_, e_var_, o_mv_, e_mv_, o_rel_, e_rel_, o_int_, e_int_, o_bl_, e_bl_, o_str_, e_str_, o_non_, e_non_, o_not_, e_not_, o_and_, e_and_, o_or_, e_or_, o_ife_, e_ife_, o_tup_, e_tup_, o_lst_, e_lst_, o_dnew_, e_dnew_, o_call_, e_call_, o_bi_, e_bi_, o_pop_, e_pop_, o_popAt_, e_popAt_, o_sget_, e_sget_, o_comp_, e_comp_, e_bor_, b_add_, b_addT_, b_addL_, b_sub_, b_mod_, b_fdiv_, b_cmp_, b_neg_, b_idxL_, b_idxT_, b_idxD_, b_slcTt_, b_slcTf_, b_slcLt_, b_slcLf_, b_revL_, b_lenL_, b_lenT_, b_abs_, b_toint_, b_totupL_, b_totupT_, b_tolstL_, b_tolstT_, b_repr_, b_lr1_, b_lr2_, b_lr3_, b_clt_, b_cle_, b_cgt_, b_cge_, b_ceq_, b_cne_, b_cin_, b_cni_, b_badbin_, b_badcmp_, b_wseqL_, b_wseqT_, b_wr1_, b_wr2_, b_wr3_, b_wenL_, b_wenT_, bad_neg_, bad_idx_, bad_rev_, bad_cnt_, bad_len_, bad_sum_, bad_max1_, bad_min1_, bad_max2_, bad_min2_, bad_abs_, bad_toint_, bad_totup_, bad_tolst_, bad_sorted_, bad_repr_, bad_mint_, bad_any_, bad_all_, bad_lrange1_, bad_lrange2_, bad_lrange3_, bad_slc_, bad_dict_, bad_ixL_, bad_ixT_, p20, p21, p10, p30, p31, p32, rd0_, rv0_, ro0_, rl0_, rd1_, rv1_, ro1_, rl1_, rd2_, rv2_, ro2_, rl2_, rd3_, rv3_, ro3_, rl3_, rd4_, rv4_, ro4_, rl4_, rd5_, rv5_, ro5_, rl5_, rd6_, rv6_, ro6_, rl6_, rd7_, rv7_, ro7_, rl7_, rd8_, rv8_, ro8_, rl8_, rd9_, rv9_, ro9_, rl9_, rd10_, rv10_, ro10_, rl10_, rd11_, rv11_, ro11_, rl11_, rd12_, rv12_, ro12_, rl12_, rd13_, rv13_, ro13_, rl13_, rd14_, rv14_, ro14_, rl14_, rd15_, rv15_, ro15_, rl15_, rd16_, rv16_, ro16_, rl16_, rd17_, rv17_, ro17_, rl17_, d_swapped_along, b_swapped_along, walk, hx, h]
theorem eqD_int (a b : Int) : eqD (.int a) (.int b) = some (decide (a = b)) := rfl
/-- the promotion path -/
def pathS (ps : List (Int × Int)) (p : List Int) (w : Int) : List Int := if ps.contains (p.getD (p.length - 1) 0, w) then p ++ [w] else p
def pathR (ps : List (Int × Int)) (r : List Int) : List Int := (r.drop 1).foldl (pathS ps) (r.take 1)
theorem pathS_len (ps : List (Int × Int)) (p : List Int) (w : Int) : p.length ≤ (pathS ps p w).length ∧ (pathS ps p w).length ≤ p.length + 1 := by
  unfold pathS; split <;> simp
theorem path_for (n : Int) (ps : List (Int × Int)) (r0 : D) (ff : Bool) : ∀ (ws p : List Int) (y : Option (Bool × D)) (s : Sr), 0 < p.length → p.length + ws.length ≤ 1000 → (∀ d, y ≠ some (true, d)) →
    ∃ y', forT (forB cf ff F (.nm 3) [.ite (.bi (.cmp .isin) [.tup [.bi .idx [.bor 2, .bi .neg [.int 1]], .var 3], .bi .idx [.bor 0, .int 1]]) [.asg 2 (.tup [.star [.bor 2], .var 3])] []]) (ws.map .int) [some (false, ordD n ps), some (false, r0), some (false, rowD p), y] s =
      some (.nx [some (false, ordD n ps), some (false, r0), some (false, rowD (ws.foldl (pathS ps) p)), y'] s)
  | [], p, y, s, _, _, _ => ⟨y, rfl⟩
  | w :: ws, p, y, s, hp, hl, hy => by
    obtain ⟨l1, l2⟩ := pathS_len ps p w
    simp only [List.length_cons] at hl
    obtain ⟨y', ih⟩ := path_for n ps r0 ff ws (pathS ps p w) (some (false, .int w)) s (by omega) (by omega) (fun d h => by cases h)
    refine ⟨y', (f_step ?_).trans ih⟩
    unfold forB
    rw [bind_nm (fun d h => hy d (by simpa using h))]
    have hl2 : (p.map D.int).length + 1 ≤ 16777216 := by rw [List.length_map]; omega
    have hl3 : (List.map D.int p ++ [D.int w]).length ≤ 16777216 := by rw [List.length_append]; exact hl2
    simp only [run_f, s_st, s_nil', k_nx, k_rt, k_bk, k_ct, m_asg, m_asgO, m_asgT, m_par, m_set, m_app, m_expr, m_ite, m_for, m_ret, m_sput, m_sfill, v_var, v_bor, v_int, v_bl, v_str, v_non, v_sget, v_not, v_and, v_or, v_ife, v_tup, v_lst, v_dnew, v_call, v_bi, v_comp, o_nil', o_bor, e_nil, e_star, t_nil', t_ex, c_turn, asB, asI, isSrc, outR, bindT, bindTs, putsE, fr, szLine, List.length_cons, List.length_nil, List.map_cons, List.map_nil, List.cons_append, List.nil_append, List.append_nil, List.getElem?_cons_zero, List.getElem?_cons_succ, List.set_cons_zero, List.set_cons_succ, List.replicate_zero, List.replicate_succ, List.getD_cons_zero, Nat.reduceSub, Nat.reduceAdd, Option.bind_some, Option.bind_none, Option.map_some, if_true, if_false, Bool.and_true, Bool.true_and, Bool.not_true, Bool.not_false, Bool.or_true, Bool.true_or, Bool.false_or, Bool.or_false, Bool.and_false, Bool.false_and, Bool.and_self, Bool.or_self, Bool.false_eq_true, startE, reduceCtorEq, List.contains_nil, List.contains_cons, Nat.reduceBEq, ite_self, Nat.reduceLeDiff, Nat.reduceEqDiff, Int.reduceLE, Int.reduceLT, Int.reduceNeg, Int.reduceAdd, Int.reduceSub, ↓reduceIte, decide_true, decide_false, true_or, or_true, or_false, false_or, or_self, not_true_eq_false, not_false_eq_true, if_true, itemsL_, itemsT_, o_var_, e_var_, o_mv_, e_mv_, o_rel_, e_rel_, o_int_, e_int_, o_bl_, e_bl_, o_str_, e_str_, o_non_, e_non_, o_not_, e_not_, o_and_, e_and_, o_or_, e_or_, o_ife_, e_ife_, o_tup_, e_tup_, o_lst_, e_lst_, o_dnew_, e_dnew_, o_call_, e_call_, o_bi_, e_bi_, o_pop_, e_pop_, o_popAt_, e_popAt_, o_sget_, e_sget_, o_comp_, e_comp_, e_bor_, b_add_, b_addT_, b_addL_, b_sub_, b_mod_, b_fdiv_, b_cmp_, b_neg_, b_idxL_, b_idxT_, b_idxD_, b_slcTt_, b_slcTf_, b_slcLt_, b_slcLf_, b_revL_, b_lenL_, b_lenT_, b_abs_, b_toint_, b_totupL_, b_totupT_, b_tolstL_, b_tolstT_, b_repr_, b_lr1_, b_lr2_, b_lr3_, b_clt_, b_cle_, b_cgt_, b_cge_, b_ceq_, b_cne_, b_cin_, b_cni_, b_badbin_, b_badcmp_, b_wseqL_, b_wseqT_, b_wr1_, b_wr2_, b_wr3_, b_wenL_, b_wenT_, bad_neg_, bad_idx_, bad_rev_, bad_cnt_, bad_len_, bad_sum_, bad_max1_, bad_min1_, bad_max2_, bad_min2_, bad_abs_, bad_toint_, bad_totup_, bad_tolst_, bad_sorted_, bad_repr_, bad_mint_, bad_any_, bad_all_, bad_lrange1_, bad_lrange2_, bad_lrange3_, bad_slc_, bad_dict_, bad_ixL_, bad_ixT_, p20, p21, p10, p30, p31, p32, rd0_, rv0_, ro0_, rl0_, rd1_, rv1_, ro1_, rl1_, rd2_, rv2_, ro2_, rl2_, rd3_, rv3_, ro3_, rl3_, rd4_, rv4_, ro4_, rl4_, rd5_, rv5_, ro5_, rl5_, rd6_, rv6_, ro6_, rl6_, rd7_, rv7_, ro7_, rl7_, rd8_, rv8_, ro8_, rl8_, rd9_, rv9_, ro9_, rl9_, rd10_, rv10_, ro10_, rl10_, rd11_, rv11_, ro11_, rl11_, rd12_, rv12_, ro12_, rl12_, rd13_, rv13_, ro13_, rl13_, rd14_, rv14_, ro14_, rl14_, rd15_, rv15_, ro15_, rl15_, rd16_, rv16_, ro16_, rl16_, rd17_, rv17_, ro17_, rl17_, List.length_map, place_neg1 hp, row_get (show p.length - 1 < p.length by omega), in_pr]
    unfold pathS
    cases ps.contains (p.getD (p.length - 1) 0, w) <;> simp only [run_f, s_st, s_nil', k_nx, k_rt, k_bk, k_ct, m_asg, m_asgO, m_asgT, m_par, m_set, m_app, m_expr, m_ite, m_for, m_ret, m_sput, m_sfill, v_var, v_bor, v_int, v_bl, v_str, v_non, v_sget, v_not, v_and, v_or, v_ife, v_tup, v_lst, v_dnew, v_call, v_bi, v_comp, o_nil', o_bor, e_nil, e_star, t_nil', t_ex, c_turn, asB, asI, isSrc, outR, bindT, bindTs, putsE, fr, szLine, List.length_cons, List.length_nil, List.map_cons, List.map_nil, List.cons_append, List.nil_append, List.append_nil, List.getElem?_cons_zero, List.getElem?_cons_succ, List.set_cons_zero, List.set_cons_succ, List.replicate_zero, List.replicate_succ, List.getD_cons_zero, Nat.reduceSub, Nat.reduceAdd, Option.bind_some, Option.bind_none, Option.map_some, if_true, if_false, Bool.and_true, Bool.true_and, Bool.not_true, Bool.not_false, Bool.or_true, Bool.true_or, Bool.false_or, Bool.or_false, Bool.and_false, Bool.false_and, Bool.and_self, Bool.or_self, Bool.false_eq_true, startE, reduceCtorEq, List.contains_nil, List.contains_cons, Nat.reduceBEq, ite_self, Nat.reduceLeDiff, Nat.reduceEqDiff, Int.reduceLE, Int.reduceLT, Int.reduceNeg, Int.reduceAdd, Int.reduceSub, ↓reduceIte, decide_true, decide_false, true_or, or_true, or_false, false_or, or_self, not_true_eq_false, not_false_eq_true, if_true, itemsL_, itemsT_, o_var_, e_var_, o_mv_, e_mv_, o_rel_, e_rel_, o_int_, e_int_, o_bl_, e_bl_, o_str_, e_str_, o_non_, e_non_, o_not_, e_not_, o_and_, e_and_, o_or_, e_or_, o_ife_, e_ife_, o_tup_, e_tup_, o_lst_, e_lst_, o_dnew_, e_dnew_, o_call_, e_call_, o_bi_, e_bi_, o_pop_, e_pop_, o_popAt_, e_popAt_, o_sget_, e_sget_, o_comp_, e_comp_, e_bor_, b_add_, b_addT_, b_addL_, b_sub_, b_mod_, b_fdiv_, b_cmp_, b_neg_, b_idxL_, b_idxT_, b_idxD_, b_slcTt_, b_slcTf_, b_slcLt_, b_slcLf_, b_revL_, b_lenL_, b_lenT_, b_abs_, b_toint_, b_totupL_, b_totupT_, b_tolstL_, b_tolstT_, b_repr_, b_lr1_, b_lr2_, b_lr3_, b_clt_, b_cle_, b_cgt_, b_cge_, b_ceq_, b_cne_, b_cin_, b_cni_, b_badbin_, b_badcmp_, b_wseqL_, b_wseqT_, b_wr1_, b_wr2_, b_wr3_, b_wenL_, b_wenT_, bad_neg_, bad_idx_, bad_rev_, bad_cnt_, bad_len_, bad_sum_, bad_max1_, bad_min1_, bad_max2_, bad_min2_, bad_abs_, bad_toint_, bad_totup_, bad_tolst_, bad_sorted_, bad_repr_, bad_mint_, bad_any_, bad_all_, bad_lrange1_, bad_lrange2_, bad_lrange3_, bad_slc_, bad_dict_, bad_ixL_, bad_ixT_, p20, p21, p10, p30, p31, p32, rd0_, rv0_, ro0_, rl0_, rd1_, rv1_, ro1_, rl1_, rd2_, rv2_, ro2_, rl2_, rd3_, rv3_, ro3_, rl3_, rd4_, rv4_, ro4_, rl4_, rd5_, rv5_, ro5_, rl5_, rd6_, rv6_, ro6_, rl6_, rd7_, rv7_, ro7_, rl7_, rd8_, rv8_, ro8_, rl8_, rd9_, rv9_, ro9_, rl9_, rd10_, rv10_, ro10_, rl10_, rd11_, rv11_, ro11_, rl11_, rd12_, rv12_, ro12_, rl12_, rd13_, rv13_, ro13_, rl13_, rd14_, rv14_, ro14_, rl14_, rd15_, rv15_, ro15_, rl15_, rd16_, rv16_, ro16_, rl16_, rd17_, rv17_, ro17_, rl17_, hl3, List.map_append, rowD]
theorem path_run (n : Int) (ps : List (Int × Int)) (r : List Int) (s : Sr) (hr : 0 < r.length) (hl : r.length ≤ 1000) : runF cf F d_promotion_path [ordD n ps, rowD r] s = some (rowD (pathR ps r), s) := by
  obtain ⟨y', h⟩ := path_for cf F n ps (rowD r) false (r.drop 1) (r.take 1) none s (by rw [List.length_take]; omega) (by simp only [List.length_take, List.length_drop]; omega) (fun d h => by cases h)
  have e1 := slc_to (r := r) (i := 1) hr
  have e2 := slc_from (r := r) (i := 1) hr
  simp only [Int.natCast_one] at e1 e2
  simp only [run_f, s_st, s_nil', k_nx, k_rt, k_bk, k_ct, m_asg, m_asgO, m_asgT, m_par, m_set, m_app, m_expr, m_ite, m_for, m_ret, m_sput, m_sfill, v_var, v_bor, v_int, v_bl, v_str, v_non, v_sget, v_not, v_and, v_or, v_ife, v_tup, v_lst, v_dnew, v_call, v_bi, v_comp, o_nil', o_bor, e_nil, e_star, t_nil', t_ex, c_turn, asB, asI, isSrc, outR, bindT, bindTs, putsE, fr, szLine, List.length_cons, List.length_nil, List.map_cons, List.map_nil, List.cons_append, List.nil_append, List.append_nil, List.getElem?_cons_zero, List.getElem?_cons_succ, List.set_cons_zero, List.set_cons_succ, List.replicate_zero, List.replicate_succ, List.getD_cons_zero, Nat.reduceSub, Nat.reduceAdd, Option.bind_some, Option.bind_none, Option.map_some, if_true, if_false, Bool.and_true, Bool.true_and, Bool.not_true, Bool.not_false, Bool.or_true, Bool.true_or, Bool.false_or, Bool.or_false, Bool.and_false, Bool.false_and, Bool.and_self, Bool.or_self, Bool.false_eq_true, startE, reduceCtorEq, List.contains_nil, List.contains_cons, Nat.reduceBEq, ite_self, Nat.reduceLeDiff, Nat.reduceEqDiff, Int.reduceLE, Int.reduceLT, Int.reduceNeg, Int.reduceAdd, Int.reduceSub, ↓reduceIte, decide_true, decide_false, true_or, or_true, or_false, false_or, or_self, not_true_eq_false, not_false_eq_true, if_true, itemsL_, itemsT_, o_var_, e_var_, o_mv_, e_mv_, o_rel_, e_rel_, o_int_, e_int_, o_bl_, e_bl_, o_str_, e_str_, o_non_, e_non_, o_not_, e_not_, o_and_, e_and_, o_or_, e_or_, o_ife_, e_ife_, o_tup_, e_tup_, o_lst_, e_lst_, o_dnew_, e_dnew_, o_call_, e_call_, o_bi_, e_bi_, o_pop_, e_pop_, o_popAt_, e_popAt_, o_sget_, e_sget_, o_comp_, e_comp_, e_bor_, b_add_, b_addT_, b_addL_, b_sub_, b_mod_, b_fdiv_, b_cmp_, b_neg_, b_idxL_, b_idxT_, b_idxD_, b_slcTt_, b_slcTf_, b_slcLt_, b_slcLf_, b_revL_, b_lenL_, b_lenT_, b_abs_, b_toint_, b_totupL_, b_totupT_, b_tolstL_, b_tolstT_, b_repr_, b_lr1_, b_lr2_, b_lr3_, b_clt_, b_cle_, b_cgt_, b_cge_, b_ceq_, b_cne_, b_cin_, b_cni_, b_badbin_, b_badcmp_, b_wseqL_, b_wseqT_, b_wr1_, b_wr2_, b_wr3_, b_wenL_, b_wenT_, bad_neg_, bad_idx_, bad_rev_, bad_cnt_, bad_len_, bad_sum_, bad_max1_, bad_min1_, bad_max2_, bad_min2_, bad_abs_, bad_toint_, bad_totup_, bad_tolst_, bad_sorted_, bad_repr_, bad_mint_, bad_any_, bad_all_, bad_lrange1_, bad_lrange2_, bad_lrange3_, bad_slc_, bad_dict_, bad_ixL_, bad_ixT_, p20, p21, p10, p30, p31, p32, rd0_, rv0_, ro0_, rl0_, rd1_, rv1_, ro1_, rl1_, rd2_, rv2_, ro2_, rl2_, rd3_, rv3_, ro3_, rl3_, rd4_, rv4_, ro4_, rl4_, rd5_, rv5_, ro5_, rl5_, rd6_, rv6_, ro6_, rl6_, rd7_, rv7_, ro7_, rl7_, rd8_, rv8_, ro8_, rl8_, rd9_, rv9_, ro9_, rl9_, rd10_, rv10_, ro10_, rl10_, rd11_, rv11_, ro11_, rl11_, rd12_, rv12_, ro12_, rl12_, rd13_, rv13_, ro13_, rl13_, rd14_, rv14_, ro14_, rl14_, rd15_, rv15_, ro15_, rl15_, rd16_, rv16_, ro16_, rl16_, rd17_, rv17_, ro17_, rl17_, d_promotion_path, b_promotion_path, e1, e2, h]
  rfl
/-- promotion -/
def promS (p : List Int) (q : List Int × Nat) (w : Int) : List Int × Nat := if q.2 + 1 < p.length ∧ w = p.getD (q.2 + 1) 0 then (q.1 ++ [p.getD q.2 0], q.2 + 1) else (q.1 ++ [w], q.2)
def promR (ps : List (Int × Int)) (r : List Int) : List Int := ((r.drop 1).foldl (promS (pathR ps r)) ([], 0)).1 ++ [(pathR ps r).getD ((pathR ps r).length - 1) 0]
theorem prom_for (n : Int) (ps : List (Int × Int)) (r0 : D) (p : List Int) (ff : Bool) : ∀ (ws : List Int) (q : List Int × Nat) (y : Option (Bool × D)) (s : Sr), q.2 < p.length → q.1.length + ws.length ≤ 1000 → (∀ d, y ≠ some (true, d)) →
    ∃ y', forT (forB cf ff F (.nm 3) [.ite (.and (.bi (.cmp .lt) [.bi (.bin .add) [.bor 2, .int 1], .bi .len [.bor 4]]) (.bi (.cmp .eq) [.bor 3, .bi .idx [.bor 4, .bi (.bin .add) [.bor 2, .int 1]]])) [.asg 5 (.tup [.star [.bor 5], .bi .idx [.bor 4, .bor 2]]), .asg 2 (.bi (.bin .add) [.bor 2, .int 1])] [.asg 5 (.tup [.star [.bor 5], .var 3])]]) (ws.map .int)
        [some (false, ordD n ps), some (false, r0), some (false, .int q.2), y, some (false, rowD p), some (false, rowD q.1)] s =
      some (.nx [some (false, ordD n ps), some (false, r0), some (false, .int (ws.foldl (promS p) q).2), y', some (false, rowD p), some (false, rowD (ws.foldl (promS p) q).1)] s)
  | [], q, y, s, _, _, _ => ⟨y, rfl⟩
  | w :: ws, q, y, s, hq, hl, hy => by
    simp only [List.length_cons] at hl
    have hb : forB cf ff F (.nm 3) [.ite (.and (.bi (.cmp .lt) [.bi (.bin .add) [.bor 2, .int 1], .bi .len [.bor 4]]) (.bi (.cmp .eq) [.bor 3, .bi .idx [.bor 4, .bi (.bin .add) [.bor 2, .int 1]]])) [.asg 5 (.tup [.star [.bor 5], .bi .idx [.bor 4, .bor 2]]), .asg 2 (.bi (.bin .add) [.bor 2, .int 1])] [.asg 5 (.tup [.star [.bor 5], .var 3])]] (.int w)
        [some (false, ordD n ps), some (false, r0), some (false, .int q.2), y, some (false, rowD p), some (false, rowD q.1)] s =
        some (.nx [some (false, ordD n ps), some (false, r0), some (false, .int (promS p q w).2), some (false, .int w), some (false, rowD p), some (false, rowD (promS p q w).1)] s) := by
      have hl3 : ∀ v, (List.map D.int q.1 ++ [D.int v]).length ≤ 16777216 := fun v => by rw [List.length_append, List.length_map, List.length_singleton]; omega
      have e1 : (q.2 : Int) + 1 = ((q.2 + 1 : Nat) : Int) := by omega
      unfold forB
      rw [bind_nm (fun d h => hy d (by simpa using h))]
      unfold promS
      by_cases h1 : q.2 + 1 < p.length
      · have h1' : ((q.2 + 1 : Nat) : Int) < (p.length : Int) := by omega
        by_cases h2 : w = p.getD (q.2 + 1) 0
        · simp only [run_f, s_st, s_nil', k_nx, k_rt, k_bk, k_ct, m_asg, m_asgO, m_asgT, m_par, m_set, m_app, m_expr, m_ite, m_for, m_ret, m_sput, m_sfill, v_var, v_bor, v_int, v_bl, v_str, v_non, v_sget, v_not, v_and, v_or, v_ife, v_tup, v_lst, v_dnew, v_call, v_bi, v_comp, o_nil', o_bor, e_nil, e_star, t_nil', t_ex, c_turn, asB, asI, isSrc, outR, bindT, bindTs, putsE, fr, szLine, List.length_cons, List.length_nil, List.map_cons, List.map_nil, List.cons_append, List.nil_append, List.append_nil, List.getElem?_cons_zero, List.getElem?_cons_succ, List.set_cons_zero, List.set_cons_succ, List.replicate_zero, List.replicate_succ, List.getD_cons_zero, Nat.reduceSub, Nat.reduceAdd, Option.bind_some, Option.bind_none, Option.map_some, if_true, if_false, Bool.and_true, Bool.true_and, Bool.not_true, Bool.not_false, Bool.or_true, Bool.true_or, Bool.false_or, Bool.or_false, Bool.and_false, Bool.false_and, Bool.and_self, Bool.or_self, Bool.false_eq_true, startE, reduceCtorEq, List.contains_nil, List.contains_cons, Nat.reduceBEq, ite_self, Nat.reduceLeDiff, Nat.reduceEqDiff, Int.reduceLE, Int.reduceLT, Int.reduceNeg, Int.reduceAdd, Int.reduceSub, ↓reduceIte, decide_true, decide_false, true_or, or_true, or_false, false_or, or_self, not_true_eq_false, not_false_eq_true, if_true, itemsL_, itemsT_, o_var_, e_var_, o_mv_, e_mv_, o_rel_, e_rel_, o_int_, e_int_, o_bl_, e_bl_, o_str_, e_str_, o_non_, e_non_, o_not_, e_not_, o_and_, e_and_, o_or_, e_or_, o_ife_, e_ife_, o_tup_, e_tup_, o_lst_, e_lst_, o_dnew_, e_dnew_, o_call_, e_call_, o_bi_, e_bi_, o_pop_, e_pop_, o_popAt_, e_popAt_, o_sget_, e_sget_, o_comp_, e_comp_, e_bor_, b_add_, b_addT_, b_addL_, b_sub_, b_mod_, b_fdiv_, b_cmp_, b_neg_, b_idxL_, b_idxT_, b_idxD_, b_slcTt_, b_slcTf_, b_slcLt_, b_slcLf_, b_revL_, b_lenL_, b_lenT_, b_abs_, b_toint_, b_totupL_, b_totupT_, b_tolstL_, b_tolstT_, b_repr_, b_lr1_, b_lr2_, b_lr3_, b_clt_, b_cle_, b_cgt_, b_cge_, b_ceq_, b_cne_, b_cin_, b_cni_, b_badbin_, b_badcmp_, b_wseqL_, b_wseqT_, b_wr1_, b_wr2_, b_wr3_, b_wenL_, b_wenT_, bad_neg_, bad_idx_, bad_rev_, bad_cnt_, bad_len_, bad_sum_, bad_max1_, bad_min1_, bad_max2_, bad_min2_, bad_abs_, bad_toint_, bad_totup_, bad_tolst_, bad_sorted_, bad_repr_, bad_mint_, bad_any_, bad_all_, bad_lrange1_, bad_lrange2_, bad_lrange3_, bad_slc_, bad_dict_, bad_ixL_, bad_ixT_, p20, p21, p10, p30, p31, p32, rd0_, rv0_, ro0_, rl0_, rd1_, rv1_, ro1_, rl1_, rd2_, rv2_, ro2_, rl2_, rd3_, rv3_, ro3_, rl3_, rd4_, rv4_, ro4_, rl4_, rd5_, rv5_, ro5_, rl5_, rd6_, rv6_, ro6_, rl6_, rd7_, rv7_, ro7_, rl7_, rd8_, rv8_, ro8_, rl8_, rd9_, rv9_, ro9_, rl9_, rd10_, rv10_, ro10_, rl10_, rd11_, rv11_, ro11_, rl11_, rd12_, rv12_, ro12_, rl12_, rd13_, rv13_, ro13_, rl13_, rd14_, rv14_, ro14_, rl14_, rd15_, rv15_, ro15_, rl15_, rd16_, rv16_, ro16_, rl16_, rd17_, rv17_, ro17_, rl17_, e1, List.length_map, decide_eq_true h1', place_nat h1, row_get h1, eqD_int, decide_eq_true h2, place_nat hq, row_get hq, hl3, h1, h2, and_self, List.map_append, rowD]
        · simp only [run_f, s_st, s_nil', k_nx, k_rt, k_bk, k_ct, m_asg, m_asgO, m_asgT, m_par, m_set, m_app, m_expr, m_ite, m_for, m_ret, m_sput, m_sfill, v_var, v_bor, v_int, v_bl, v_str, v_non, v_sget, v_not, v_and, v_or, v_ife, v_tup, v_lst, v_dnew, v_call, v_bi, v_comp, o_nil', o_bor, e_nil, e_star, t_nil', t_ex, c_turn, asB, asI, isSrc, outR, bindT, bindTs, putsE, fr, szLine, List.length_cons, List.length_nil, List.map_cons, List.map_nil, List.cons_append, List.nil_append, List.append_nil, List.getElem?_cons_zero, List.getElem?_cons_succ, List.set_cons_zero, List.set_cons_succ, List.replicate_zero, List.replicate_succ, List.getD_cons_zero, Nat.reduceSub, Nat.reduceAdd, Option.bind_some, Option.bind_none, Option.map_some, if_true, if_false, Bool.and_true, Bool.true_and, Bool.not_true, Bool.not_false, Bool.or_true, Bool.true_or, Bool.false_or, Bool.or_false, Bool.and_false, Bool.false_and, Bool.and_self, Bool.or_self, Bool.false_eq_true, startE, reduceCtorEq, List.contains_nil, List.contains_cons, Nat.reduceBEq, ite_self, Nat.reduceLeDiff, Nat.reduceEqDiff, Int.reduceLE, Int.reduceLT, Int.reduceNeg, Int.reduceAdd, Int.reduceSub, ↓reduceIte, decide_true, decide_false, true_or, or_true, or_false, false_or, or_self, not_true_eq_false, not_false_eq_true, if_true, itemsL_, itemsT_, o_var_, e_var_, o_mv_, e_mv_, o_rel_, e_rel_, o_int_, e_int_, o_bl_, e_bl_, o_str_, e_str_, o_non_, e_non_, o_not_, e_not_, o_and_, e_and_, o_or_, e_or_, o_ife_, e_ife_, o_tup_, e_tup_, o_lst_, e_lst_, o_dnew_, e_dnew_, o_call_, e_call_, o_bi_, e_bi_, o_pop_, e_pop_, o_popAt_, e_popAt_, o_sget_, e_sget_, o_comp_, e_comp_, e_bor_, b_add_, b_addT_, b_addL_, b_sub_, b_mod_, b_fdiv_, b_cmp_, b_neg_, b_idxL_, b_idxT_, b_idxD_, b_slcTt_, b_slcTf_, b_slcLt_, b_slcLf_, b_revL_, b_lenL_, b_lenT_, b_abs_, b_toint_, b_totupL_, b_totupT_, b_tolstL_, b_tolstT_, b_repr_, b_lr1_, b_lr2_, b_lr3_, b_clt_, b_cle_, b_cgt_, b_cge_, b_ceq_, b_cne_, b_cin_, b_cni_, b_badbin_, b_badcmp_, b_wseqL_, b_wseqT_, b_wr1_, b_wr2_, b_wr3_, b_wenL_, b_wenT_, bad_neg_, bad_idx_, bad_rev_, bad_cnt_, bad_len_, bad_sum_, bad_max1_, bad_min1_, bad_max2_, bad_min2_, bad_abs_, bad_toint_, bad_totup_, bad_tolst_, bad_sorted_, bad_repr_, bad_mint_, bad_any_, bad_all_, bad_lrange1_, bad_lrange2_, bad_lrange3_, bad_slc_, bad_dict_, bad_ixL_, bad_ixT_, p20, p21, p10, p30, p31, p32, rd0_, rv0_, ro0_, rl0_, rd1_, rv1_, ro1_, rl1_, rd2_, rv2_, ro2_, rl2_, rd3_, rv3_, ro3_, rl3_, rd4_, rv4_, ro4_, rl4_, rd5_, rv5_, ro5_, rl5_, rd6_, rv6_, ro6_, rl6_, rd7_, rv7_, ro7_, rl7_, rd8_, rv8_, ro8_, rl8_, rd9_, rv9_, ro9_, rl9_, rd10_, rv10_, ro10_, rl10_, rd11_, rv11_, ro11_, rl11_, rd12_, rv12_, ro12_, rl12_, rd13_, rv13_, ro13_, rl13_, rd14_, rv14_, ro14_, rl14_, rd15_, rv15_, ro15_, rl15_, rd16_, rv16_, ro16_, rl16_, rd17_, rv17_, ro17_, rl17_, e1, List.length_map, decide_eq_true h1', place_nat h1, row_get h1, eqD_int, decide_eq_false h2, hl3, h1, h2, and_false, List.map_append, rowD]
      · have h1' : ¬ ((q.2 + 1 : Nat) : Int) < (p.length : Int) := by omega
        simp only [run_f, s_st, s_nil', k_nx, k_rt, k_bk, k_ct, m_asg, m_asgO, m_asgT, m_par, m_set, m_app, m_expr, m_ite, m_for, m_ret, m_sput, m_sfill, v_var, v_bor, v_int, v_bl, v_str, v_non, v_sget, v_not, v_and, v_or, v_ife, v_tup, v_lst, v_dnew, v_call, v_bi, v_comp, o_nil', o_bor, e_nil, e_star, t_nil', t_ex, c_turn, asB, asI, isSrc, outR, bindT, bindTs, putsE, fr, szLine, List.length_cons, List.length_nil, List.map_cons, List.map_nil, List.cons_append, List.nil_append, List.append_nil, List.getElem?_cons_zero, List.getElem?_cons_succ, List.set_cons_zero, List.set_cons_succ, List.replicate_zero, List.replicate_succ, List.getD_cons_zero, Nat.reduceSub, Nat.reduceAdd, Option.bind_some, Option.bind_none, Option.map_some, if_true, if_false, Bool.and_true, Bool.true_and, Bool.not_true, Bool.not_false, Bool.or_true, Bool.true_or, Bool.false_or, Bool.or_false, Bool.and_false, Bool.false_and, Bool.and_self, Bool.or_self, Bool.false_eq_true, startE, reduceCtorEq, List.contains_nil, List.contains_cons, Nat.reduceBEq, ite_self, Nat.reduceLeDiff, Nat.reduceEqDiff, Int.reduceLE, Int.reduceLT, Int.reduceNeg, Int.reduceAdd, Int.reduceSub, ↓reduceIte, decide_true, decide_false, true_or, or_true, or_false, false_or, or_self, not_true_eq_false, not_false_eq_true, if_true, itemsL_, itemsT_, o_var_, e_var_, o_mv_, e_mv_, o_rel_, e_rel_, o_int_, e_int_, o_bl_, e_bl_, o_str_, e_str_, o_non_, e_non_, o_not_, e_not_, o_and_, e_and_, o_or_, e_or_, o_ife_, e_ife_, o_tup_, e_tup_, o_lst_, e_lst_, o_dnew_, e_dnew_, o_call_, e_call_, o_bi_, e_bi_, o_pop_, e_pop_, o_popAt_, e_popAt_, o_sget_, e_sget_, o_comp_, e_comp_, e_bor_, b_add_, b_addT_, b_addL_, b_sub_, b_mod_, b_fdiv_, b_cmp_, b_neg_, b_idxL_, b_idxT_, b_idxD_, b_slcTt_, b_slcTf_, b_slcLt_, b_slcLf_, b_revL_, b_lenL_, b_lenT_, b_abs_, b_toint_, b_totupL_, b_totupT_, b_tolstL_, b_tolstT_, b_repr_, b_lr1_, b_lr2_, b_lr3_, b_clt_, b_cle_, b_cgt_, b_cge_, b_ceq_, b_cne_, b_cin_, b_cni_, b_badbin_, b_badcmp_, b_wseqL_, b_wseqT_, b_wr1_, b_wr2_, b_wr3_, b_wenL_, b_wenT_, bad_neg_, bad_idx_, bad_rev_, bad_cnt_, bad_len_, bad_sum_, bad_max1_, bad_min1_, bad_max2_, bad_min2_, bad_abs_, bad_toint_, bad_totup_, bad_tolst_, bad_sorted_, bad_repr_, bad_mint_, bad_any_, bad_all_, bad_lrange1_, bad_lrange2_, bad_lrange3_, bad_slc_, bad_dict_, bad_ixL_, bad_ixT_, p20, p21, p10, p30, p31, p32, rd0_, rv0_, ro0_, rl0_, rd1_, rv1_, ro1_, rl1_, rd2_, rv2_, ro2_, rl2_, rd3_, rv3_, ro3_, rl3_, rd4_, rv4_, ro4_, rl4_, rd5_, rv5_, ro5_, rl5_, rd6_, rv6_, ro6_, rl6_, rd7_, rv7_, ro7_, rl7_, rd8_, rv8_, ro8_, rl8_, rd9_, rv9_, ro9_, rl9_, rd10_, rv10_, ro10_, rl10_, rd11_, rv11_, ro11_, rl11_, rd12_, rv12_, ro12_, rl12_, rd13_, rv13_, ro13_, rl13_, rd14_, rv14_, ro14_, rl14_, rd15_, rv15_, ro15_, rl15_, rd16_, rv16_, ro16_, rl16_, rd17_, rv17_, ro17_, rl17_, e1, List.length_map, decide_eq_false h1', hl3, h1, false_and, List.map_append, rowD]
    have hlen : (promS p q w).1.length = q.1.length + 1 ∧ (promS p q w).2 < p.length := by
      unfold promS
      split
      · rename_i h; exact ⟨by simp, h.1⟩
      · exact ⟨by simp, hq⟩
    obtain ⟨y', ih⟩ := prom_for n ps r0 p ff ws (promS p q w) (some (false, .int w)) s hlen.2 (by omega) (fun d h => by cases h)
    exact ⟨y', (f_step hb).trans ih⟩
theorem pathR_len (ps : List (Int × Int)) (r : List Int) (h : 0 < r.length) : 0 < (pathR ps r).length ∧ (pathR ps r).length ≤ r.length := by
  have key : ∀ (ws p : List Int), p.length ≤ (ws.foldl (pathS ps) p).length ∧ (ws.foldl (pathS ps) p).length ≤ p.length + ws.length := by
    intro ws
    induction ws with
    | nil => intro p; exact ⟨Nat.le_refl _, Nat.le_refl _⟩
    | cons w ws ih =>
      intro p
      obtain ⟨a, b⟩ := pathS_len ps p w
      obtain ⟨c, d⟩ := ih (pathS ps p w)
      simp only [List.foldl_cons, List.length_cons]
      omega
  obtain ⟨a, b⟩ := key (r.drop 1) (r.take 1)
  simp only [List.length_take, List.length_drop] at a b
  unfold pathR
  omega
theorem promoted_run (n : Int) (ps : List (Int × Int)) (r : List Int) (s : Sr) (hr : 0 < r.length) (hl : r.length ≤ 1000) (hc : ∀ s, cf 3 [ordD n ps, rowD r] s = some (rowD (pathR ps r), s)) : runF cf F d_promoted [ordD n ps, rowD r] s = some (rowD (promR ps r), s) := by
  obtain ⟨hp, hp2⟩ := pathR_len ps r hr
  obtain ⟨y', h⟩ := prom_for cf F n ps (rowD r) (pathR ps r) false (r.drop 1) ([], 0) none s hp (by simp only [List.length_nil, List.length_drop]; omega) (fun d h => by cases h)
  have e2 := slc_from (r := r) (i := 1) hr
  simp only [Int.natCast_one] at e2
  have hfl : ∀ (ws : List Int) (q : List Int × Nat), (ws.foldl (promS (pathR ps r)) q).1.length = q.1.length + ws.length := by
    intro ws
    induction ws with
    | nil => intro q; rfl
    | cons w ws ih => intro q; rw [List.foldl_cons, ih]; unfold promS; split <;> simp <;> omega
  have hl3 : ∀ v, (List.map D.int ((r.drop 1).foldl (promS (pathR ps r)) ([], 0)).1 ++ [D.int v]).length ≤ 16777216 := fun v => by
    rw [List.length_append, List.length_map, hfl, List.length_singleton, List.length_nil, List.length_drop]; omega
  simp only [rowD, List.map_nil, Int.natCast_zero] at h hc
  simp only [run_f, s_st, s_nil', k_nx, k_rt, k_bk, k_ct, m_asg, m_asgO, m_asgT, m_par, m_set, m_app, m_expr, m_ite, m_for, m_ret, m_sput, m_sfill, v_var, v_bor, v_int, v_bl, v_str, v_non, v_sget, v_not, v_and, v_or, v_ife, v_tup, v_lst, v_dnew, v_call, v_bi, v_comp, o_nil', o_bor, e_nil, e_star, t_nil', t_ex, c_turn, asB, asI, isSrc, outR, bindT, bindTs, putsE, fr, szLine, List.length_cons, List.length_nil, List.map_cons, List.map_nil, List.cons_append, List.nil_append, List.append_nil, List.getElem?_cons_zero, List.getElem?_cons_succ, List.set_cons_zero, List.set_cons_succ, List.replicate_zero, List.replicate_succ, List.getD_cons_zero, Nat.reduceSub, Nat.reduceAdd, Option.bind_some, Option.bind_none, Option.map_some, if_true, if_false, Bool.and_true, Bool.true_and, Bool.not_true, Bool.not_false, Bool.or_true, Bool.true_or, Bool.false_or, Bool.or_false, Bool.and_false, Bool.false_and, Bool.and_self, Bool.or_self, Bool.false_eq_true, startE, reduceCtorEq, List.contains_nil, List.contains_cons, Nat.reduceBEq, ite_self, Nat.reduceLeDiff, Nat.reduceEqDiff, Int.reduceLE, Int.reduceLT, Int.reduceNeg, Int.reduceAdd, Int.reduceSub, ↓reduceIte, decide_true, decide_false, true_or, or_true, or_false, false_or, or_self, not_true_eq_false, not_false_eq_true, if_true, itemsL_, itemsT_, o_var_, e_var_, o_mv_, e_mv_, o_rel_, e_rel_, o_int_, e_int_, o_bl_, e_bl_, o_str_, e_str_, o_non_, e_non_, o_not_, e_not_, o_and_, e_and_, o_or_, e_or_, o_ife_, e_ife_, o_tup_, e_tup_, o_lst_, e_lst_, o_dnew_, e_dnew_, o_call_, e_call_, o_bi_, e_bi_, o_pop_, e_pop_, o_popAt_, e_popAt_, o_sget_, e_sget_, o_comp_, e_comp_, e_bor_, b_add_, b_addT_, b_addL_, b_sub_, b_mod_, b_fdiv_, b_cmp_, b_neg_, b_idxL_, b_idxT_, b_idxD_, b_slcTt_, b_slcTf_, b_slcLt_, b_slcLf_, b_revL_, b_lenL_, b_lenT_, b_abs_, b_toint_, b_totupL_, b_totupT_, b_tolstL_, b_tolstT_, b_repr_, b_lr1_, b_lr2_, b_lr3_, b_clt_, b_cle_, b_cgt_, b_cge_, b_ceq_, b_cne_, b_cin_, b_cni_, b_badbin_, b_badcmp_, b_wseqL_, b_wseqT_, b_wr1_, b_wr2_, b_wr3_, b_wenL_, b_wenT_, bad_neg_, bad_idx_, bad_rev_, bad_cnt_, bad_len_, bad_sum_, bad_max1_, bad_min1_, bad_max2_, bad_min2_, bad_abs_, bad_toint_, bad_totup_, bad_tolst_, bad_sorted_, bad_repr_, bad_mint_, bad_any_, bad_all_, bad_lrange1_, bad_lrange2_, bad_lrange3_, bad_slc_, bad_dict_, bad_ixL_, bad_ixT_, p20, p21, p10, p30, p31, p32, rd0_, rv0_, ro0_, rl0_, rd1_, rv1_, ro1_, rl1_, rd2_, rv2_, ro2_, rl2_, rd3_, rv3_, ro3_, rl3_, rd4_, rv4_, ro4_, rl4_, rd5_, rv5_, ro5_, rl5_, rd6_, rv6_, ro6_, rl6_, rd7_, rv7_, ro7_, rl7_, rd8_, rv8_, ro8_, rl8_, rd9_, rv9_, ro9_, rl9_, rd10_, rv10_, ro10_, rl10_, rd11_, rv11_, ro11_, rl11_, rd12_, rv12_, ro12_, rl12_, rd13_, rv13_, ro13_, rl13_, rd14_, rv14_, ro14_, rl14_, rd15_, rv15_, ro15_, rl15_, rd16_, rv16_, ro16_, rl16_, rd17_, rv17_, ro17_, rl17_, d_promoted, b_promoted, hc, e2, h, List.length_map, place_neg1 hp, row_get (show (pathR ps r).length - 1 < (pathR ps r).length by omega), hl3, promR, List.map_append, rowD]
theorem range_up {k : Nat} (h : k ≤ 1000) : rangeD 0 (k : Int) 1 = some (natsD (List.range k)) := by
  unfold rangeD
  rw [if_pos ⟨by decide, by decide, by decide, by omega⟩]
  have e : (if (1 : Int) > 0 then (if (0 : Int) < k then ((k : Int) - 0 - 1) / 1 + 1 else 0) else if (0 : Int) > k then (0 - (k : Int) - 1) / (-1) + 1 else 0).toNat = k := by
    rw [if_pos (by decide)]
    split
    · rw [Int.ediv_one]; omega
    · omega
  simp only [e]
  rw [if_pos (show k ≤ szLine from Nat.le_trans h (by decide))]
  congr 1
  apply List.map_congr_left
  intro i _
  congr 1
  omega
theorem range_down {k : Nat} (h : k ≤ 1000) : rangeD ((k : Int) - 1) (-1) (-1) = some (natsD (List.range k).reverse) := by
  unfold rangeD
  rw [if_pos ⟨by decide, by decide, by omega, by decide⟩]
  have e : (if (-1 : Int) > 0 then (if ((k : Int) - 1) < -1 then (-1 - ((k : Int) - 1) - 1) / (-1) + 1 else 0) else if ((k : Int) - 1) > -1 then (((k : Int) - 1) - (-1) - 1) / (-(-1)) + 1 else 0).toNat = k := by
    rw [if_neg (by decide)]
    split
    · have : (-(-1) : Int) = 1 := by decide
      rw [this, Int.ediv_one]; omega
    · omega
  simp only [e]
  rw [if_pos (show k ≤ szLine from Nat.le_trans h (by decide))]
  congr 1
  apply List.ext_getElem
  · simp
  · intro i h1 h2
    simp only [List.length_map, List.length_range] at h1
    simp only [natsD, List.getElem_map, List.getElem_range, List.getElem_reverse, List.length_range, D.int.injEq]
    omega
def demR (ps : List (Int × Int)) (r : List Int) : List Int := alongR ps r (List.range (r.length - 1)).reverse
theorem demoted_run (n : Int) (ps : List (Int × Int)) (r : List Int) (s : Sr) (hn : n = r.length) (hr : 0 < r.length) (hl : r.length ≤ 1000)
    (hc : ∀ (x : D) (ks : List Nat) s, D.items x = some (natsD ks) → (∀ k ∈ ks, k + 1 < r.length) → cf 2 [ordD n ps, rowD r, x] s = some (rowD (alongR ps r ks), s)) : runF cf F d_demoted [ordD n ps, rowD r] s = some (rowD (demR ps r), s) := by
  have e1 : n - 2 = ((r.length - 1 : Nat) : Int) - 1 := by omega
  have h := hc (.lst (natsD (List.range (r.length - 1)).reverse)) _ s rfl (fun k hk => by simp at hk; omega)
  simp only [run_f, s_st, s_nil', k_nx, k_rt, k_bk, k_ct, m_asg, m_asgO, m_asgT, m_par, m_set, m_app, m_expr, m_ite, m_for, m_ret, m_sput, m_sfill, v_var, v_bor, v_int, v_bl, v_str, v_non, v_sget, v_not, v_and, v_or, v_ife, v_tup, v_lst, v_dnew, v_call, v_bi, v_comp, o_nil', o_bor, e_nil, e_star, t_nil', t_ex, c_turn, asB, asI, isSrc, outR, bindT, bindTs, putsE, fr, szLine, List.length_cons, List.length_nil, List.map_cons, List.map_nil, List.cons_append, List.nil_append, List.append_nil, List.getElem?_cons_zero, List.getElem?_cons_succ, List.set_cons_zero, List.set_cons_succ, List.replicate_zero, List.replicate_succ, List.getD_cons_zero, Nat.reduceSub, Nat.reduceAdd, Option.bind_some, Option.bind_none, Option.map_some, if_true, if_false, Bool.and_true, Bool.true_and, Bool.not_true, Bool.not_false, Bool.or_true, Bool.true_or, Bool.false_or, Bool.or_false, Bool.and_false, Bool.false_and, Bool.and_self, Bool.or_self, Bool.false_eq_true, startE, reduceCtorEq, List.contains_nil, List.contains_cons, Nat.reduceBEq, ite_self, Nat.reduceLeDiff, Nat.reduceEqDiff, Int.reduceLE, Int.reduceLT, Int.reduceNeg, Int.reduceAdd, Int.reduceSub, ↓reduceIte, decide_true, decide_false, true_or, or_true, or_false, false_or, or_self, not_true_eq_false, not_false_eq_true, if_true, itemsL_, itemsT_, o_var_, e_var_, o_mv_, e_mv_, o_rel_, e_rel_, o_int_, e_int_, o_bl_, e_bl_, o_str_, e_str_, o_non_, e_non_, o_not_, e_not_, o_and_, e_and_, o_or_, e_or_, o_ife_, e_ife_, o_tup_, e_tup_, o_lst_, e_lst_, o_dnew_, e_dnew_, o_call_, e_call_, o_bi_, e_bi_, o_pop_, e_pop_, o_popAt_, e_popAt_, o_sget_, e_sget_, o_comp_, e_comp_, e_bor_, b_add_, b_addT_, b_addL_, b_sub_, b_mod_, b_fdiv_, b_cmp_, b_neg_, b_idxL_, b_idxT_, b_idxD_, b_slcTt_, b_slcTf_, b_slcLt_, b_slcLf_, b_revL_, b_lenL_, b_lenT_, b_abs_, b_toint_, b_totupL_, b_totupT_, b_tolstL_, b_tolstT_, b_repr_, b_lr1_, b_lr2_, b_lr3_, b_clt_, b_cle_, b_cgt_, b_cge_, b_ceq_, b_cne_, b_cin_, b_cni_, b_badbin_, b_badcmp_, b_wseqL_, b_wseqT_, b_wr1_, b_wr2_, b_wr3_, b_wenL_, b_wenT_, bad_neg_, bad_idx_, bad_rev_, bad_cnt_, bad_len_, bad_sum_, bad_max1_, bad_min1_, bad_max2_, bad_min2_, bad_abs_, bad_toint_, bad_totup_, bad_tolst_, bad_sorted_, bad_repr_, bad_mint_, bad_any_, bad_all_, bad_lrange1_, bad_lrange2_, bad_lrange3_, bad_slc_, bad_dict_, bad_ixL_, bad_ixT_, p20, p21, p10, p30, p31, p32, rd0_, rv0_, ro0_, rl0_, rd1_, rv1_, ro1_, rl1_, rd2_, rv2_, ro2_, rl2_, rd3_, rv3_, ro3_, rl3_, rd4_, rv4_, ro4_, rl4_, rd5_, rv5_, ro5_, rl5_, rd6_, rv6_, ro6_, rl6_, rd7_, rv7_, ro7_, rl7_, rd8_, rv8_, ro8_, rl8_, rd9_, rv9_, ro9_, rl9_, rd10_, rv10_, ro10_, rl10_, rd11_, rv11_, ro11_, rl11_, rd12_, rv12_, ro12_, rl12_, rd13_, rv13_, ro13_, rl13_, rd14_, rv14_, ro14_, rl14_, rd15_, rv15_, ro15_, rl15_, rd16_, rv16_, ro16_, rl16_, rd17_, rv17_, ro17_, rl17_, d_demoted, b_demoted, e1, range_down (show r.length - 1 ≤ 1000 by omega), h, demR]
theorem alongR_length (ps : List (Int × Int)) : ∀ (ks : List Nat) (r : List Int), (∀ k ∈ ks, k + 1 < r.length) → (alongR ps r ks).length = r.length
  | [], r, _ => rfl
  | k :: ks, r, h => by
    have h1 := swapR_length ps r k (h k List.mem_cons_self)
    show (alongR ps (swapR ps r k) ks).length = _
    rw [alongR_length ps ks _ (fun j hj => by rw [h1]; exact h j (List.mem_cons_of_mem _ hj)), h1]
theorem promR_length (ps : List (Int × Int)) (r : List Int) (h : 0 < r.length) : (promR ps r).length = r.length := by
  have hfl : ∀ (p : List Int) (ws : List Int) (q : List Int × Nat), (ws.foldl (promS p) q).1.length = q.1.length + ws.length := by
    intro p ws
    induction ws with
    | nil => intro q; rfl
    | cons w ws ih => intro q; rw [List.foldl_cons, ih]; unfold promS; split <;> simp <;> omega
  unfold promR
  rw [List.length_append, hfl, List.length_singleton, List.length_nil, List.length_drop]; omega
theorem demR_length (ps : List (Int × Int)) (r : List Int) : (demR ps r).length = r.length := alongR_length ps _ r fun k hk => by simp at hk; omega
def oftenS (ps : List (Int × Int)) (up : Bool) (r : List Int) : Nat → List Int
  | 0 => r
  | k + 1 => oftenS ps up (if up then promR ps r else demR ps r) k
theorem often_for (n : Int) (ps : List (Int × Int)) (m : Nat) (k : Int) (hm : 0 < m) (h4 : ∀ (r : List Int) s, r.length = m → cf 4 [ordD n ps, rowD r] s = some (rowD (promR ps r), s)) (h5 : ∀ (r : List Int) s, r.length = m → cf 5 [ordD n ps, rowD r] s = some (rowD (demR ps r), s)) (ff : Bool) :
    ∀ (xs : List D) (r : List Int) (y : Option (Bool × D)) (s : Sr), r.length = m → (∀ d, y ≠ some (true, d)) → ∃ y', forT (forB cf ff F (.nm 3) [.asg 1 (.ife (.bi (.cmp .gt) [.bor 2, .int 0]) (.call 4 false [.var 0, .var 1]) (.call 5 false [.var 0, .var 1]))]) xs [some (false, ordD n ps), some (false, rowD r), some (false, .int k), y] s =
      some (.nx [some (false, ordD n ps), some (false, rowD (oftenS ps (decide (0 < k)) r xs.length)), some (false, .int k), y'] s)
  | [], r, y, s, _, _ => ⟨y, rfl⟩
  | x :: xs, r, y, s, hr, hy => by
    obtain ⟨y', ih⟩ := often_for n ps m k hm h4 h5 ff xs (if decide (0 < k) = true then promR ps r else demR ps r) (some (false, x)) s (by split; rw [promR_length ps r (by omega), hr]; rw [demR_length, hr]) (fun d h => by cases h)
    refine ⟨y', (f_step ?_).trans ih⟩
    unfold forB
    rw [bind_nm (fun d h => hy d (by simpa using h))]
    have a := h4 r s hr
    have b := h5 r s hr
    cases hk : decide (0 < k) <;> simp only [run_f, s_st, s_nil', k_nx, k_rt, k_bk, k_ct, m_asg, m_asgO, m_asgT, m_par, m_set, m_app, m_expr, m_ite, m_for, m_ret, m_sput, m_sfill, v_var, v_bor, v_int, v_bl, v_str, v_non, v_sget, v_not, v_and, v_or, v_ife, v_tup, v_lst, v_dnew, v_call, v_bi, v_comp, o_nil', o_bor, e_nil, e_star, t_nil', t_ex, c_turn, asB, asI, isSrc, outR, bindT, bindTs, putsE, fr, szLine, List.length_cons, List.length_nil, List.map_cons, List.map_nil, List.cons_append, List.nil_append, List.append_nil, List.getElem?_cons_zero, List.getElem?_cons_succ, List.set_cons_zero, List.set_cons_succ, List.replicate_zero, List.replicate_succ, List.getD_cons_zero, Nat.reduceSub, Nat.reduceAdd, Option.bind_some, Option.bind_none, Option.map_some, if_true, if_false, Bool.and_true, Bool.true_and, Bool.not_true, Bool.not_false, Bool.or_true, Bool.true_or, Bool.false_or, Bool.or_false, Bool.and_false, Bool.false_and, Bool.and_self, Bool.or_self, Bool.false_eq_true, startE, reduceCtorEq, List.contains_nil, List.contains_cons, Nat.reduceBEq, ite_self, Nat.reduceLeDiff, Nat.reduceEqDiff, Int.reduceLE, Int.reduceLT, Int.reduceNeg, Int.reduceAdd, Int.reduceSub, ↓reduceIte, decide_true, decide_false, true_or, or_true, or_false, false_or, or_self, not_true_eq_false, not_false_eq_true, if_true, itemsL_, itemsT_, o_var_, e_var_, o_mv_, e_mv_, o_rel_, e_rel_, o_int_, e_int_, o_bl_, e_bl_, o_str_, e_str_, o_non_, e_non_, o_not_, e_not_, o_and_, e_and_, o_or_, e_or_, o_ife_, e_ife_, o_tup_, e_tup_, o_lst_, e_lst_, o_dnew_, e_dnew_, o_call_, e_call_, o_bi_, e_bi_, o_pop_, e_pop_, o_popAt_, e_popAt_, o_sget_, e_sget_, o_comp_, e_comp_, e_bor_, b_add_, b_addT_, b_addL_, b_sub_, b_mod_, b_fdiv_, b_cmp_, b_neg_, b_idxL_, b_idxT_, b_idxD_, b_slcTt_, b_slcTf_, b_slcLt_, b_slcLf_, b_revL_, b_lenL_, b_lenT_, b_abs_, b_toint_, b_totupL_, b_totupT_, b_tolstL_, b_tolstT_, b_repr_, b_lr1_, b_lr2_, b_lr3_, b_clt_, b_cle_, b_cgt_, b_cge_, b_ceq_, b_cne_, b_cin_, b_cni_, b_badbin_, b_badcmp_, b_wseqL_, b_wseqT_, b_wr1_, b_wr2_, b_wr3_, b_wenL_, b_wenT_, bad_neg_, bad_idx_, bad_rev_, bad_cnt_, bad_len_, bad_sum_, bad_max1_, bad_min1_, bad_max2_, bad_min2_, bad_abs_, bad_toint_, bad_totup_, bad_tolst_, bad_sorted_, bad_repr_, bad_mint_, bad_any_, bad_all_, bad_lrange1_, bad_lrange2_, bad_lrange3_, bad_slc_, bad_dict_, bad_ixL_, bad_ixT_, p20, p21, p10, p30, p31, p32, rd0_, rv0_, ro0_, rl0_, rd1_, rv1_, ro1_, rl1_, rd2_, rv2_, ro2_, rl2_, rd3_, rv3_, ro3_, rl3_, rd4_, rv4_, ro4_, rl4_, rd5_, rv5_, ro5_, rl5_, rd6_, rv6_, ro6_, rl6_, rd7_, rv7_, ro7_, rl7_, rd8_, rv8_, ro8_, rl8_, rd9_, rv9_, ro9_, rl9_, rd10_, rv10_, ro10_, rl10_, rd11_, rv11_, ro11_, rl11_, rd12_, rv12_, ro12_, rl12_, rd13_, rv13_, ro13_, rl13_, rd14_, rv14_, ro14_, rl14_, rd15_, rv15_, ro15_, rl15_, rd16_, rv16_, ro16_, rl16_, rd17_, rv17_, ro17_, rl17_, hk, a, b]
theorem often_run (n : Int) (ps : List (Int × Int)) (m : Nat) (k : Int) (hm : 0 < m) (hk : k.natAbs ≤ 1000) (h4 : ∀ (r : List Int) s, r.length = m → cf 4 [ordD n ps, rowD r] s = some (rowD (promR ps r), s)) (h5 : ∀ (r : List Int) s, r.length = m → cf 5 [ordD n ps, rowD r] s = some (rowD (demR ps r), s)) (r : List Int) (s : Sr) (hr : r.length = m) :
    runF cf F d_promoted_often [ordD n ps, rowD r, .int k] s = some (rowD (oftenS ps (decide (0 < k)) r k.natAbs), s) := by
  have e : (if k < 0 then -k else k) = ((k.natAbs : Nat) : Int) := by split <;> omega
  obtain ⟨y', h⟩ := often_for cf F n ps m k hm h4 h5 false (natsD (List.range k.natAbs)) r none s hr (fun d h => by cases h)
  rw [List.length_map, List.length_range] at h
  simp only [run_f, s_st, s_nil', k_nx, k_rt, k_bk, k_ct, m_asg, m_asgO, m_asgT, m_par, m_set, m_app, m_expr, m_ite, m_for, m_ret, m_sput, m_sfill, v_var, v_bor, v_int, v_bl, v_str, v_non, v_sget, v_not, v_and, v_or, v_ife, v_tup, v_lst, v_dnew, v_call, v_bi, v_comp, o_nil', o_bor, e_nil, e_star, t_nil', t_ex, c_turn, asB, asI, isSrc, outR, bindT, bindTs, putsE, fr, szLine, List.length_cons, List.length_nil, List.map_cons, List.map_nil, List.cons_append, List.nil_append, List.append_nil, List.getElem?_cons_zero, List.getElem?_cons_succ, List.set_cons_zero, List.set_cons_succ, List.replicate_zero, List.replicate_succ, List.getD_cons_zero, Nat.reduceSub, Nat.reduceAdd, Option.bind_some, Option.bind_none, Option.map_some, if_true, if_false, Bool.and_true, Bool.true_and, Bool.not_true, Bool.not_false, Bool.or_true, Bool.true_or, Bool.false_or, Bool.or_false, Bool.and_false, Bool.false_and, Bool.and_self, Bool.or_self, Bool.false_eq_true, startE, reduceCtorEq, List.contains_nil, List.contains_cons, Nat.reduceBEq, ite_self, Nat.reduceLeDiff, Nat.reduceEqDiff, Int.reduceLE, Int.reduceLT, Int.reduceNeg, Int.reduceAdd, Int.reduceSub, ↓reduceIte, decide_true, decide_false, true_or, or_true, or_false, false_or, or_self, not_true_eq_false, not_false_eq_true, if_true, itemsL_, itemsT_, o_var_, e_var_, o_mv_, e_mv_, o_rel_, e_rel_, o_int_, e_int_, o_bl_, e_bl_, o_str_, e_str_, o_non_, e_non_, o_not_, e_not_, o_and_, e_and_, o_or_, e_or_, o_ife_, e_ife_, o_tup_, e_tup_, o_lst_, e_lst_, o_dnew_, e_dnew_, o_call_, e_call_, o_bi_, e_bi_, o_pop_, e_pop_, o_popAt_, e_popAt_, o_sget_, e_sget_, o_comp_, e_comp_, e_bor_, b_add_, b_addT_, b_addL_, b_sub_, b_mod_, b_fdiv_, b_cmp_, b_neg_, b_idxL_, b_idxT_, b_idxD_, b_slcTt_, b_slcTf_, b_slcLt_, b_slcLf_, b_revL_, b_lenL_, b_lenT_, b_abs_, b_toint_, b_totupL_, b_totupT_, b_tolstL_, b_tolstT_, b_repr_, b_lr1_, b_lr2_, b_lr3_, b_clt_, b_cle_, b_cgt_, b_cge_, b_ceq_, b_cne_, b_cin_, b_cni_, b_badbin_, b_badcmp_, b_wseqL_, b_wseqT_, b_wr1_, b_wr2_, b_wr3_, b_wenL_, b_wenT_, bad_neg_, bad_idx_, bad_rev_, bad_cnt_, bad_len_, bad_sum_, bad_max1_, bad_min1_, bad_max2_, bad_min2_, bad_abs_, bad_toint_, bad_totup_, bad_tolst_, bad_sorted_, bad_repr_, bad_mint_, bad_any_, bad_all_, bad_lrange1_, bad_lrange2_, bad_lrange3_, bad_slc_, bad_dict_, bad_ixL_, bad_ixT_, p20, p21, p10, p30, p31, p32, rd0_, rv0_, ro0_, rl0_, rd1_, rv1_, ro1_, rl1_, rd2_, rv2_, ro2_, rl2_, rd3_, rv3_, ro3_, rl3_, rd4_, rv4_, ro4_, rl4_, rd5_, rv5_, ro5_, rl5_, rd6_, rv6_, ro6_, rl6_, rd7_, rv7_, ro7_, rl7_, rd8_, rv8_, ro8_, rl8_, rd9_, rv9_, ro9_, rl9_, rd10_, rv10_, ro10_, rl10_, rd11_, rv11_, ro11_, rl11_, rd12_, rv12_, ro12_, rl12_, rd13_, rv13_, ro13_, rl13_, rd14_, rv14_, ro14_, rl14_, rd15_, rv15_, ro15_, rl15_, rd16_, rv16_, ro16_, rl16_, rd17_, rv17_, ro17_, rl17_, d_promoted_often, b_promoted_often, e, range_up hk, h]
/-- a number drawn -/
theorem pick_run (m : Int) (s : Sr) (hm : m < 1073741824) : ∃ v s', runF cf F d__law_pick [.src, .int m] s = some (.int v, s') ∧ s'.fz = s.fz ∧ 0 ≤ v ∧ (v < m ∨ v = 0) := by
  by_cases h1 : m < 2
  · refine ⟨0, s, ?_, rfl, by omega, .inr rfl⟩
    simp only [run_f, s_st, s_nil', k_nx, k_rt, k_bk, k_ct, m_asg, m_asgO, m_asgT, m_par, m_set, m_app, m_expr, m_ite, m_for, m_ret, m_sput, m_sfill, v_var, v_bor, v_int, v_bl, v_str, v_non, v_sget, v_not, v_and, v_or, v_ife, v_tup, v_lst, v_dnew, v_call, v_bi, v_comp, o_nil', o_bor, e_nil, e_star, t_nil', t_ex, c_turn, asB, asI, isSrc, outR, bindT, bindTs, putsE, fr, szLine, List.length_cons, List.length_nil, List.map_cons, List.map_nil, List.cons_append, List.nil_append, List.append_nil, List.getElem?_cons_zero, List.getElem?_cons_succ, List.set_cons_zero, List.set_cons_succ, List.replicate_zero, List.replicate_succ, List.getD_cons_zero, Nat.reduceSub, Nat.reduceAdd, Option.bind_some, Option.bind_none, Option.map_some, if_true, if_false, Bool.and_true, Bool.true_and, Bool.not_true, Bool.not_false, Bool.or_true, Bool.true_or, Bool.false_or, Bool.or_false, Bool.and_false, Bool.false_and, Bool.and_self, Bool.or_self, Bool.false_eq_true, startE, reduceCtorEq, List.contains_nil, List.contains_cons, Nat.reduceBEq, ite_self, Nat.reduceLeDiff, Nat.reduceEqDiff, Int.reduceLE, Int.reduceLT, Int.reduceNeg, Int.reduceAdd, Int.reduceSub, ↓reduceIte, decide_true, decide_false, true_or, or_true, or_false, false_or, or_self, not_true_eq_false, not_false_eq_true, if_true, itemsL_, itemsT_, o_var_, e_var_, o_mv_, e_mv_, o_rel_, e_rel_, o_int_, e_int_, o_bl_, e_bl_, o_str_, e_str_, o_non_, e_non_, o_not_, e_not_, o_and_, e_and_, o_or_, e_or_, o_ife_, e_ife_, o_tup_, e_tup_, o_lst_, e_lst_, o_dnew_, e_dnew_, o_call_, e_call_, o_bi_, e_bi_, o_pop_, e_pop_, o_popAt_, e_popAt_, o_sget_, e_sget_, o_comp_, e_comp_, e_bor_, b_add_, b_addT_, b_addL_, b_sub_, b_mod_, b_fdiv_, b_cmp_, b_neg_, b_idxL_, b_idxT_, b_idxD_, b_slcTt_, b_slcTf_, b_slcLt_, b_slcLf_, b_revL_, b_lenL_, b_lenT_, b_abs_, b_toint_, b_totupL_, b_totupT_, b_tolstL_, b_tolstT_, b_repr_, b_lr1_, b_lr2_, b_lr3_, b_clt_, b_cle_, b_cgt_, b_cge_, b_ceq_, b_cne_, b_cin_, b_cni_, b_badbin_, b_badcmp_, b_wseqL_, b_wseqT_, b_wr1_, b_wr2_, b_wr3_, b_wenL_, b_wenT_, bad_neg_, bad_idx_, bad_rev_, bad_cnt_, bad_len_, bad_sum_, bad_max1_, bad_min1_, bad_max2_, bad_min2_, bad_abs_, bad_toint_, bad_totup_, bad_tolst_, bad_sorted_, bad_repr_, bad_mint_, bad_any_, bad_all_, bad_lrange1_, bad_lrange2_, bad_lrange3_, bad_slc_, bad_dict_, bad_ixL_, bad_ixT_, p20, p21, p10, p30, p31, p32, rd0_, rv0_, ro0_, rl0_, rd1_, rv1_, ro1_, rl1_, rd2_, rv2_, ro2_, rl2_, rd3_, rv3_, ro3_, rl3_, rd4_, rv4_, ro4_, rl4_, rd5_, rv5_, ro5_, rl5_, rd6_, rv6_, ro6_, rl6_, rd7_, rv7_, ro7_, rl7_, rd8_, rv8_, ro8_, rl8_, rd9_, rv9_, ro9_, rl9_, rd10_, rv10_, ro10_, rl10_, rd11_, rv11_, ro11_, rl11_, rd12_, rv12_, ro12_, rl12_, rd13_, rv13_, ro13_, rl13_, rd14_, rv14_, ro14_, rl14_, rd15_, rv15_, ro15_, rl15_, rd16_, rv16_, ro16_, rl16_, rd17_, rv17_, ro17_, rl17_, d__law_pick, b__law_pick, decide_eq_true h1]
  · have h2 : 0 < m := by omega
    by_cases h3 : 1 < s.fill.left
    · refine ⟨s.fill.left % m, s.fill.putF (s.fill.left / m) 0, ?_, rfl, Int.emod_nonneg _ (by omega), .inl (Int.emod_lt_of_pos _ h2)⟩
      simp only [run_f, s_st, s_nil', k_nx, k_rt, k_bk, k_ct, m_asg, m_asgO, m_asgT, m_par, m_set, m_app, m_expr, m_ite, m_for, m_ret, m_sput, m_sfill, v_var, v_bor, v_int, v_bl, v_str, v_non, v_sget, v_not, v_and, v_or, v_ife, v_tup, v_lst, v_dnew, v_call, v_bi, v_comp, o_nil', o_bor, e_nil, e_star, t_nil', t_ex, c_turn, asB, asI, isSrc, outR, bindT, bindTs, putsE, fr, szLine, List.length_cons, List.length_nil, List.map_cons, List.map_nil, List.cons_append, List.nil_append, List.append_nil, List.getElem?_cons_zero, List.getElem?_cons_succ, List.set_cons_zero, List.set_cons_succ, List.replicate_zero, List.replicate_succ, List.getD_cons_zero, Nat.reduceSub, Nat.reduceAdd, Option.bind_some, Option.bind_none, Option.map_some, if_true, if_false, Bool.and_true, Bool.true_and, Bool.not_true, Bool.not_false, Bool.or_true, Bool.true_or, Bool.false_or, Bool.or_false, Bool.and_false, Bool.false_and, Bool.and_self, Bool.or_self, Bool.false_eq_true, startE, reduceCtorEq, List.contains_nil, List.contains_cons, Nat.reduceBEq, ite_self, Nat.reduceLeDiff, Nat.reduceEqDiff, Int.reduceLE, Int.reduceLT, Int.reduceNeg, Int.reduceAdd, Int.reduceSub, ↓reduceIte, decide_true, decide_false, true_or, or_true, or_false, false_or, or_self, not_true_eq_false, not_false_eq_true, if_true, itemsL_, itemsT_, o_var_, e_var_, o_mv_, e_mv_, o_rel_, e_rel_, o_int_, e_int_, o_bl_, e_bl_, o_str_, e_str_, o_non_, e_non_, o_not_, e_not_, o_and_, e_and_, o_or_, e_or_, o_ife_, e_ife_, o_tup_, e_tup_, o_lst_, e_lst_, o_dnew_, e_dnew_, o_call_, e_call_, o_bi_, e_bi_, o_pop_, e_pop_, o_popAt_, e_popAt_, o_sget_, e_sget_, o_comp_, e_comp_, e_bor_, b_add_, b_addT_, b_addL_, b_sub_, b_mod_, b_fdiv_, b_cmp_, b_neg_, b_idxL_, b_idxT_, b_idxD_, b_slcTt_, b_slcTf_, b_slcLt_, b_slcLf_, b_revL_, b_lenL_, b_lenT_, b_abs_, b_toint_, b_totupL_, b_totupT_, b_tolstL_, b_tolstT_, b_repr_, b_lr1_, b_lr2_, b_lr3_, b_clt_, b_cle_, b_cgt_, b_cge_, b_ceq_, b_cne_, b_cin_, b_cni_, b_badbin_, b_badcmp_, b_wseqL_, b_wseqT_, b_wr1_, b_wr2_, b_wr3_, b_wenL_, b_wenT_, bad_neg_, bad_idx_, bad_rev_, bad_cnt_, bad_len_, bad_sum_, bad_max1_, bad_min1_, bad_max2_, bad_min2_, bad_abs_, bad_toint_, bad_totup_, bad_tolst_, bad_sorted_, bad_repr_, bad_mint_, bad_any_, bad_all_, bad_lrange1_, bad_lrange2_, bad_lrange3_, bad_slc_, bad_dict_, bad_ixL_, bad_ixT_, p20, p21, p10, p30, p31, p32, rd0_, rv0_, ro0_, rl0_, rd1_, rv1_, ro1_, rl1_, rd2_, rv2_, ro2_, rl2_, rd3_, rv3_, ro3_, rl3_, rd4_, rv4_, ro4_, rl4_, rd5_, rv5_, ro5_, rl5_, rd6_, rv6_, ro6_, rl6_, rd7_, rv7_, ro7_, rl7_, rd8_, rv8_, ro8_, rl8_, rd9_, rv9_, ro9_, rl9_, rd10_, rv10_, ro10_, rl10_, rd11_, rv11_, ro11_, rl11_, rd12_, rv12_, ro12_, rl12_, rd13_, rv13_, ro13_, rl13_, rd14_, rv14_, ro14_, rl14_, rd15_, rv15_, ro15_, rl15_, rd16_, rv16_, ro16_, rl16_, rd17_, rv17_, ro17_, rl17_, d__law_pick, b__law_pick, decide_eq_false h1, Sr.fld, decide_eq_true h3, h2, hm, and_self]
    · let s1 := s.fill.putF (s.fill.turn + 1) 2
      let x := (s1.mixed + s1.turn * 104729) % 998244353
      let y := (x * x + s1.turn * 17) % 2147483647
      refine ⟨(y / 16) % m, s1, ?_, rfl, Int.emod_nonneg _ (by omega), .inl (Int.emod_lt_of_pos _ h2)⟩
      have x0 : 0 ≤ x := Int.emod_nonneg _ (by decide)
      have x1 : x < 998244353 := Int.emod_lt_of_pos _ (by decide)
      have m1 : ∀ a : Int, biD (.bin .mul) [.int a, .int 104729] = some (.int (a * 104729)) := fun a => by rw [b_mul_, if_pos (.inr (by decide))]
      have m2 : ∀ a : Int, biD (.bin .mul) [.int a, .int 17] = some (.int (a * 17)) := fun a => by rw [b_mul_, if_pos (.inr (by decide))]
      have m3 : ∀ a : Int, biD (.bin .mul) [.int (a % 998244353), .int (a % 998244353)] = some (.int (a % 998244353 * (a % 998244353))) := fun a => by
        have q1 := Int.emod_nonneg a (b := 998244353) (by decide)
        have q2 := Int.emod_lt_of_pos a (b := 998244353) (by decide)
        rw [b_mul_, if_pos (.inr ⟨by omega, by omega⟩)]
      simp only [run_f, s_st, s_nil', k_nx, k_rt, k_bk, k_ct, m_asg, m_asgO, m_asgT, m_par, m_set, m_app, m_expr, m_ite, m_for, m_ret, m_sput, m_sfill, v_var, v_bor, v_int, v_bl, v_str, v_non, v_sget, v_not, v_and, v_or, v_ife, v_tup, v_lst, v_dnew, v_call, v_bi, v_comp, o_nil', o_bor, e_nil, e_star, t_nil', t_ex, c_turn, asB, asI, isSrc, outR, bindT, bindTs, putsE, fr, szLine, List.length_cons, List.length_nil, List.map_cons, List.map_nil, List.cons_append, List.nil_append, List.append_nil, List.getElem?_cons_zero, List.getElem?_cons_succ, List.set_cons_zero, List.set_cons_succ, List.replicate_zero, List.replicate_succ, List.getD_cons_zero, Nat.reduceSub, Nat.reduceAdd, Option.bind_some, Option.bind_none, Option.map_some, if_true, if_false, Bool.and_true, Bool.true_and, Bool.not_true, Bool.not_false, Bool.or_true, Bool.true_or, Bool.false_or, Bool.or_false, Bool.and_false, Bool.false_and, Bool.and_self, Bool.or_self, Bool.false_eq_true, startE, reduceCtorEq, List.contains_nil, List.contains_cons, Nat.reduceBEq, ite_self, Nat.reduceLeDiff, Nat.reduceEqDiff, Int.reduceLE, Int.reduceLT, Int.reduceNeg, Int.reduceAdd, Int.reduceSub, ↓reduceIte, decide_true, decide_false, true_or, or_true, or_false, false_or, or_self, not_true_eq_false, not_false_eq_true, if_true, itemsL_, itemsT_, o_var_, e_var_, o_mv_, e_mv_, o_rel_, e_rel_, o_int_, e_int_, o_bl_, e_bl_, o_str_, e_str_, o_non_, e_non_, o_not_, e_not_, o_and_, e_and_, o_or_, e_or_, o_ife_, e_ife_, o_tup_, e_tup_, o_lst_, e_lst_, o_dnew_, e_dnew_, o_call_, e_call_, o_bi_, e_bi_, o_pop_, e_pop_, o_popAt_, e_popAt_, o_sget_, e_sget_, o_comp_, e_comp_, e_bor_, b_add_, b_addT_, b_addL_, b_sub_, b_mod_, b_fdiv_, b_cmp_, b_neg_, b_idxL_, b_idxT_, b_idxD_, b_slcTt_, b_slcTf_, b_slcLt_, b_slcLf_, b_revL_, b_lenL_, b_lenT_, b_abs_, b_toint_, b_totupL_, b_totupT_, b_tolstL_, b_tolstT_, b_repr_, b_lr1_, b_lr2_, b_lr3_, b_clt_, b_cle_, b_cgt_, b_cge_, b_ceq_, b_cne_, b_cin_, b_cni_, b_badbin_, b_badcmp_, b_wseqL_, b_wseqT_, b_wr1_, b_wr2_, b_wr3_, b_wenL_, b_wenT_, bad_neg_, bad_idx_, bad_rev_, bad_cnt_, bad_len_, bad_sum_, bad_max1_, bad_min1_, bad_max2_, bad_min2_, bad_abs_, bad_toint_, bad_totup_, bad_tolst_, bad_sorted_, bad_repr_, bad_mint_, bad_any_, bad_all_, bad_lrange1_, bad_lrange2_, bad_lrange3_, bad_slc_, bad_dict_, bad_ixL_, bad_ixT_, p20, p21, p10, p30, p31, p32, rd0_, rv0_, ro0_, rl0_, rd1_, rv1_, ro1_, rl1_, rd2_, rv2_, ro2_, rl2_, rd3_, rv3_, ro3_, rl3_, rd4_, rv4_, ro4_, rl4_, rd5_, rv5_, ro5_, rl5_, rd6_, rv6_, ro6_, rl6_, rd7_, rv7_, ro7_, rl7_, rd8_, rv8_, ro8_, rl8_, rd9_, rv9_, ro9_, rl9_, rd10_, rv10_, ro10_, rl10_, rd11_, rv11_, ro11_, rl11_, rd12_, rv12_, ro12_, rl12_, rd13_, rv13_, ro13_, rl13_, rd14_, rv14_, ro14_, rl14_, rd15_, rv15_, ro15_, rl15_, rd16_, rv16_, ro16_, rl16_, rd17_, rv17_, ro17_, rl17_, d__law_pick, b__law_pick, decide_eq_false h1, Sr.fld, Sr.putF, decide_eq_false h3, m1, m2, m3, h2, Int.reduceLT, and_self]
      rfl
theorem items_two {l : D} {xs : List D} (h : D.items l = some xs) : l = .lst xs ∨ l = .tup xs := by
  cases l <;> simp only [D.items, Option.some.injEq, reduceCtorEq] at h <;> subst h
  · exact .inl rfl
  · exact .inr rfl
def PickOk : Prop := ∀ (m : Int) (s : Sr), m < 1073741824 → ∃ v s', cf 12 [.src, .int m] s = some (.int v, s') ∧ s'.fz = s.fz ∧ 0 ≤ v ∧ (v < m ∨ v = 0)
theorem of_run (hp : PickOk cf) (l : D) (xs : List D) (hl : D.items l = some xs) (h0 : xs ≠ []) (h1 : xs.length ≤ 1000) (s : Sr) : ∃ x s', runF cf F d__law_of [.src, l] s = some (x, s') ∧ x ∈ xs ∧ s'.fz = s.fz := by
  obtain ⟨v, s', e, fz, v0, v1⟩ := hp (xs.length : Int) s (by omega)
  have hpos : 0 < xs.length := List.length_pos_iff.mpr h0
  have hv : v.toNat < xs.length := by omega
  have ev : v = (v.toNat : Int) := by omega
  rw [ev] at e
  refine ⟨xs[v.toNat], s', ?_, List.getElem_mem hv, fz⟩
  have hg : xs[v.toNat]? = some xs[v.toNat] := List.getElem?_eq_getElem hv
  rcases items_two hl with rfl | rfl
  · simp only [run_f, s_st, s_nil', k_nx, k_rt, k_bk, k_ct, m_asg, m_asgO, m_asgT, m_par, m_set, m_app, m_expr, m_ite, m_for, m_ret, m_sput, m_sfill, v_var, v_bor, v_int, v_bl, v_str, v_non, v_sget, v_not, v_and, v_or, v_ife, v_tup, v_lst, v_dnew, v_call, v_bi, v_comp, o_nil', o_bor, e_nil, e_star, t_nil', t_ex, c_turn, asB, asI, isSrc, outR, bindT, bindTs, putsE, fr, szLine, List.length_cons, List.length_nil, List.map_cons, List.map_nil, List.cons_append, List.nil_append, List.append_nil, List.getElem?_cons_zero, List.getElem?_cons_succ, List.set_cons_zero, List.set_cons_succ, List.replicate_zero, List.replicate_succ, List.getD_cons_zero, Nat.reduceSub, Nat.reduceAdd, Option.bind_some, Option.bind_none, Option.map_some, if_true, if_false, Bool.and_true, Bool.true_and, Bool.not_true, Bool.not_false, Bool.or_true, Bool.true_or, Bool.false_or, Bool.or_false, Bool.and_false, Bool.false_and, Bool.and_self, Bool.or_self, Bool.false_eq_true, startE, reduceCtorEq, List.contains_nil, List.contains_cons, Nat.reduceBEq, ite_self, Nat.reduceLeDiff, Nat.reduceEqDiff, Int.reduceLE, Int.reduceLT, Int.reduceNeg, Int.reduceAdd, Int.reduceSub, ↓reduceIte, decide_true, decide_false, true_or, or_true, or_false, false_or, or_self, not_true_eq_false, not_false_eq_true, if_true, itemsL_, itemsT_, o_var_, e_var_, o_mv_, e_mv_, o_rel_, e_rel_, o_int_, e_int_, o_bl_, e_bl_, o_str_, e_str_, o_non_, e_non_, o_not_, e_not_, o_and_, e_and_, o_or_, e_or_, o_ife_, e_ife_, o_tup_, e_tup_, o_lst_, e_lst_, o_dnew_, e_dnew_, o_call_, e_call_, o_bi_, e_bi_, o_pop_, e_pop_, o_popAt_, e_popAt_, o_sget_, e_sget_, o_comp_, e_comp_, e_bor_, b_add_, b_addT_, b_addL_, b_sub_, b_mod_, b_fdiv_, b_cmp_, b_neg_, b_idxL_, b_idxT_, b_idxD_, b_slcTt_, b_slcTf_, b_slcLt_, b_slcLf_, b_revL_, b_lenL_, b_lenT_, b_abs_, b_toint_, b_totupL_, b_totupT_, b_tolstL_, b_tolstT_, b_repr_, b_lr1_, b_lr2_, b_lr3_, b_clt_, b_cle_, b_cgt_, b_cge_, b_ceq_, b_cne_, b_cin_, b_cni_, b_badbin_, b_badcmp_, b_wseqL_, b_wseqT_, b_wr1_, b_wr2_, b_wr3_, b_wenL_, b_wenT_, bad_neg_, bad_idx_, bad_rev_, bad_cnt_, bad_len_, bad_sum_, bad_max1_, bad_min1_, bad_max2_, bad_min2_, bad_abs_, bad_toint_, bad_totup_, bad_tolst_, bad_sorted_, bad_repr_, bad_mint_, bad_any_, bad_all_, bad_lrange1_, bad_lrange2_, bad_lrange3_, bad_slc_, bad_dict_, bad_ixL_, bad_ixT_, p20, p21, p10, p30, p31, p32, rd0_, rv0_, ro0_, rl0_, rd1_, rv1_, ro1_, rl1_, rd2_, rv2_, ro2_, rl2_, rd3_, rv3_, ro3_, rl3_, rd4_, rv4_, ro4_, rl4_, rd5_, rv5_, ro5_, rl5_, rd6_, rv6_, ro6_, rl6_, rd7_, rv7_, ro7_, rl7_, rd8_, rv8_, ro8_, rl8_, rd9_, rv9_, ro9_, rl9_, rd10_, rv10_, ro10_, rl10_, rd11_, rv11_, ro11_, rl11_, rd12_, rv12_, ro12_, rl12_, rd13_, rv13_, ro13_, rl13_, rd14_, rv14_, ro14_, rl14_, rd15_, rv15_, ro15_, rl15_, rd16_, rv16_, ro16_, rl16_, rd17_, rv17_, ro17_, rl17_, d__law_of, b__law_of, e, place_nat hv, hg]
  · simp only [run_f, s_st, s_nil', k_nx, k_rt, k_bk, k_ct, m_asg, m_asgO, m_asgT, m_par, m_set, m_app, m_expr, m_ite, m_for, m_ret, m_sput, m_sfill, v_var, v_bor, v_int, v_bl, v_str, v_non, v_sget, v_not, v_and, v_or, v_ife, v_tup, v_lst, v_dnew, v_call, v_bi, v_comp, o_nil', o_bor, e_nil, e_star, t_nil', t_ex, c_turn, asB, asI, isSrc, outR, bindT, bindTs, putsE, fr, szLine, List.length_cons, List.length_nil, List.map_cons, List.map_nil, List.cons_append, List.nil_append, List.append_nil, List.getElem?_cons_zero, List.getElem?_cons_succ, List.set_cons_zero, List.set_cons_succ, List.replicate_zero, List.replicate_succ, List.getD_cons_zero, Nat.reduceSub, Nat.reduceAdd, Option.bind_some, Option.bind_none, Option.map_some, if_true, if_false, Bool.and_true, Bool.true_and, Bool.not_true, Bool.not_false, Bool.or_true, Bool.true_or, Bool.false_or, Bool.or_false, Bool.and_false, Bool.false_and, Bool.and_self, Bool.or_self, Bool.false_eq_true, startE, reduceCtorEq, List.contains_nil, List.contains_cons, Nat.reduceBEq, ite_self, Nat.reduceLeDiff, Nat.reduceEqDiff, Int.reduceLE, Int.reduceLT, Int.reduceNeg, Int.reduceAdd, Int.reduceSub, ↓reduceIte, decide_true, decide_false, true_or, or_true, or_false, false_or, or_self, not_true_eq_false, not_false_eq_true, if_true, itemsL_, itemsT_, o_var_, e_var_, o_mv_, e_mv_, o_rel_, e_rel_, o_int_, e_int_, o_bl_, e_bl_, o_str_, e_str_, o_non_, e_non_, o_not_, e_not_, o_and_, e_and_, o_or_, e_or_, o_ife_, e_ife_, o_tup_, e_tup_, o_lst_, e_lst_, o_dnew_, e_dnew_, o_call_, e_call_, o_bi_, e_bi_, o_pop_, e_pop_, o_popAt_, e_popAt_, o_sget_, e_sget_, o_comp_, e_comp_, e_bor_, b_add_, b_addT_, b_addL_, b_sub_, b_mod_, b_fdiv_, b_cmp_, b_neg_, b_idxL_, b_idxT_, b_idxD_, b_slcTt_, b_slcTf_, b_slcLt_, b_slcLf_, b_revL_, b_lenL_, b_lenT_, b_abs_, b_toint_, b_totupL_, b_totupT_, b_tolstL_, b_tolstT_, b_repr_, b_lr1_, b_lr2_, b_lr3_, b_clt_, b_cle_, b_cgt_, b_cge_, b_ceq_, b_cne_, b_cin_, b_cni_, b_badbin_, b_badcmp_, b_wseqL_, b_wseqT_, b_wr1_, b_wr2_, b_wr3_, b_wenL_, b_wenT_, bad_neg_, bad_idx_, bad_rev_, bad_cnt_, bad_len_, bad_sum_, bad_max1_, bad_min1_, bad_max2_, bad_min2_, bad_abs_, bad_toint_, bad_totup_, bad_tolst_, bad_sorted_, bad_repr_, bad_mint_, bad_any_, bad_all_, bad_lrange1_, bad_lrange2_, bad_lrange3_, bad_slc_, bad_dict_, bad_ixL_, bad_ixT_, p20, p21, p10, p30, p31, p32, rd0_, rv0_, ro0_, rl0_, rd1_, rv1_, ro1_, rl1_, rd2_, rv2_, ro2_, rl2_, rd3_, rv3_, ro3_, rl3_, rd4_, rv4_, ro4_, rl4_, rd5_, rv5_, ro5_, rl5_, rd6_, rv6_, ro6_, rl6_, rd7_, rv7_, ro7_, rl7_, rd8_, rv8_, ro8_, rl8_, rd9_, rv9_, ro9_, rl9_, rd10_, rv10_, ro10_, rl10_, rd11_, rv11_, ro11_, rl11_, rd12_, rv12_, ro12_, rl12_, rd13_, rv13_, ro13_, rl13_, rd14_, rv14_, ro14_, rl14_, rd15_, rv15_, ro15_, rl15_, rd16_, rv16_, ro16_, rl16_, rd17_, rv17_, ro17_, rl17_, d__law_of, b__law_of, e, place_nat hv, hg]
theorem erase_perm {α : Type} : ∀ (l : List α) (i : Nat) (h : i < l.length), (l[i] :: l.eraseIdx i).Perm l
  | [], i, h => by simp at h
  | x :: xs, 0, h => .refl _
  | x :: xs, i + 1, h => by
    have := erase_perm xs i (by simpa using h)
    exact (List.Perm.swap x _ _).trans (this.cons x)
theorem mixed_turns (hp : PickOk cf) (th : D) : ∀ (ks : List D) (rest acc : List D) (y : Option (Bool × D)) (s : Sr), rest.length = ks.length → rest.length ≤ 1000 → (∀ d, y ≠ some (true, d)) →
    ∃ zs y' s', turns (cTurn cf [3] (.nm 3) [] (.popAt 2 [.call 12 false [.var 0, .bi .len [.bor 2]]])) ks acc [some (false, .src), some (false, th), some (true, .lst rest), y] s = some (acc.reverse ++ zs, [some (false, .src), some (false, th), some (true, .lst []), y'], s') ∧ zs.Perm rest ∧ s'.fz = s.fz
  | [], rest, acc, y, s, hl, _, _ => by
    have : rest = [] := List.eq_nil_of_length_eq_zero hl
    subst this
    exact ⟨[], y, s, by rw [tn_nil, List.append_nil], .refl _, rfl⟩
  | k :: ks, rest, acc, y, s, hl, h1, hy => by
    simp only [List.length_cons] at hl
    obtain ⟨v, s1, e, fz, v0, v1⟩ := hp (rest.length : Int) s (by omega)
    have hv : v.toNat < rest.length := by omega
    have ev' : v = (v.toNat : Int) := by omega
    rw [ev'] at e
    have hc : cTurn cf [3] (.nm 3) [] (.popAt 2 [.call 12 false [.var 0, .bi .len [.bor 2]]]) k [some (false, .src), some (false, th), some (true, .lst rest), y] s = some (some rest[v.toNat], [some (false, .src), some (false, th), some (true, .lst (rest.eraseIdx v.toNat)), some (false, k)], s1) := by
      rw [c_turn]
      show (bindT (.nm 3) k [some (false, .src), some (false, th), some (true, .lst rest), none]).bind _ = _
      rw [bind_nm (fun d h => by cases h)]
      simp only [run_f, s_st, s_nil', k_nx, k_rt, k_bk, k_ct, m_asg, m_asgO, m_asgT, m_par, m_set, m_app, m_expr, m_ite, m_for, m_ret, m_sput, m_sfill, v_var, v_bor, v_int, v_bl, v_str, v_non, v_sget, v_not, v_and, v_or, v_ife, v_tup, v_lst, v_dnew, v_call, v_bi, v_comp, o_nil', o_bor, e_nil, e_star, t_nil', t_ex, c_turn, asB, asI, isSrc, outR, bindT, bindTs, putsE, fr, szLine, List.length_cons, List.length_nil, List.map_cons, List.map_nil, List.cons_append, List.nil_append, List.append_nil, List.getElem?_cons_zero, List.getElem?_cons_succ, List.set_cons_zero, List.set_cons_succ, List.replicate_zero, List.replicate_succ, List.getD_cons_zero, Nat.reduceSub, Nat.reduceAdd, Option.bind_some, Option.bind_none, Option.map_some, if_true, if_false, Bool.and_true, Bool.true_and, Bool.not_true, Bool.not_false, Bool.or_true, Bool.true_or, Bool.false_or, Bool.or_false, Bool.and_false, Bool.false_and, Bool.and_self, Bool.or_self, Bool.false_eq_true, startE, reduceCtorEq, List.contains_nil, List.contains_cons, Nat.reduceBEq, ite_self, Nat.reduceLeDiff, Nat.reduceEqDiff, Int.reduceLE, Int.reduceLT, Int.reduceNeg, Int.reduceAdd, Int.reduceSub, ↓reduceIte, decide_true, decide_false, true_or, or_true, or_false, false_or, or_self, not_true_eq_false, not_false_eq_true, if_true, itemsL_, itemsT_, o_var_, e_var_, o_mv_, e_mv_, o_rel_, e_rel_, o_int_, e_int_, o_bl_, e_bl_, o_str_, e_str_, o_non_, e_non_, o_not_, e_not_, o_and_, e_and_, o_or_, e_or_, o_ife_, e_ife_, o_tup_, e_tup_, o_lst_, e_lst_, o_dnew_, e_dnew_, o_call_, e_call_, o_bi_, e_bi_, o_pop_, e_pop_, o_popAt_, e_popAt_, o_sget_, e_sget_, o_comp_, e_comp_, e_bor_, b_add_, b_addT_, b_addL_, b_sub_, b_mod_, b_fdiv_, b_cmp_, b_neg_, b_idxL_, b_idxT_, b_idxD_, b_slcTt_, b_slcTf_, b_slcLt_, b_slcLf_, b_revL_, b_lenL_, b_lenT_, b_abs_, b_toint_, b_totupL_, b_totupT_, b_tolstL_, b_tolstT_, b_repr_, b_lr1_, b_lr2_, b_lr3_, b_clt_, b_cle_, b_cgt_, b_cge_, b_ceq_, b_cne_, b_cin_, b_cni_, b_badbin_, b_badcmp_, b_wseqL_, b_wseqT_, b_wr1_, b_wr2_, b_wr3_, b_wenL_, b_wenT_, bad_neg_, bad_idx_, bad_rev_, bad_cnt_, bad_len_, bad_sum_, bad_max1_, bad_min1_, bad_max2_, bad_min2_, bad_abs_, bad_toint_, bad_totup_, bad_tolst_, bad_sorted_, bad_repr_, bad_mint_, bad_any_, bad_all_, bad_lrange1_, bad_lrange2_, bad_lrange3_, bad_slc_, bad_dict_, bad_ixL_, bad_ixT_, p20, p21, p10, p30, p31, p32, rd0_, rv0_, ro0_, rl0_, rd1_, rv1_, ro1_, rl1_, rd2_, rv2_, ro2_, rl2_, rd3_, rv3_, ro3_, rl3_, rd4_, rv4_, ro4_, rl4_, rd5_, rv5_, ro5_, rl5_, rd6_, rv6_, ro6_, rl6_, rd7_, rv7_, ro7_, rl7_, rd8_, rv8_, ro8_, rl8_, rd9_, rv9_, ro9_, rl9_, rd10_, rv10_, ro10_, rl10_, rd11_, rv11_, ro11_, rl11_, rd12_, rv12_, ro12_, rl12_, rd13_, rv13_, ro13_, rl13_, rd14_, rv14_, ro14_, rl14_, rd15_, rv15_, ro15_, rl15_, rd16_, rv16_, ro16_, rl16_, rd17_, rv17_, ro17_, rl17_]
      rw [v_popAt (ys := rest) (zs := rest) (k := v.toNat) (j := v.toNat) (d := rest[v.toNat]) rfl (env1 := [some (false, .src), some (false, th), some (true, .lst rest), some (false, k)]) (s1 := s1) (by simp only [run_f, s_st, s_nil', k_nx, k_rt, k_bk, k_ct, m_asg, m_asgO, m_asgT, m_par, m_set, m_app, m_expr, m_ite, m_for, m_ret, m_sput, m_sfill, v_var, v_bor, v_int, v_bl, v_str, v_non, v_sget, v_not, v_and, v_or, v_ife, v_tup, v_lst, v_dnew, v_call, v_bi, v_comp, o_nil', o_bor, e_nil, e_star, t_nil', t_ex, c_turn, asB, asI, isSrc, outR, bindT, bindTs, putsE, fr, szLine, List.length_cons, List.length_nil, List.map_cons, List.map_nil, List.cons_append, List.nil_append, List.append_nil, List.getElem?_cons_zero, List.getElem?_cons_succ, List.set_cons_zero, List.set_cons_succ, List.replicate_zero, List.replicate_succ, List.getD_cons_zero, Nat.reduceSub, Nat.reduceAdd, Option.bind_some, Option.bind_none, Option.map_some, if_true, if_false, Bool.and_true, Bool.true_and, Bool.not_true, Bool.not_false, Bool.or_true, Bool.true_or, Bool.false_or, Bool.or_false, Bool.and_false, Bool.false_and, Bool.and_self, Bool.or_self, Bool.false_eq_true, startE, reduceCtorEq, List.contains_nil, List.contains_cons, Nat.reduceBEq, ite_self, Nat.reduceLeDiff, Nat.reduceEqDiff, Int.reduceLE, Int.reduceLT, Int.reduceNeg, Int.reduceAdd, Int.reduceSub, ↓reduceIte, decide_true, decide_false, true_or, or_true, or_false, false_or, or_self, not_true_eq_false, not_false_eq_true, if_true, itemsL_, itemsT_, o_var_, e_var_, o_mv_, e_mv_, o_rel_, e_rel_, o_int_, e_int_, o_bl_, e_bl_, o_str_, e_str_, o_non_, e_non_, o_not_, e_not_, o_and_, e_and_, o_or_, e_or_, o_ife_, e_ife_, o_tup_, e_tup_, o_lst_, e_lst_, o_dnew_, e_dnew_, o_call_, e_call_, o_bi_, e_bi_, o_pop_, e_pop_, o_popAt_, e_popAt_, o_sget_, e_sget_, o_comp_, e_comp_, e_bor_, b_add_, b_addT_, b_addL_, b_sub_, b_mod_, b_fdiv_, b_cmp_, b_neg_, b_idxL_, b_idxT_, b_idxD_, b_slcTt_, b_slcTf_, b_slcLt_, b_slcLf_, b_revL_, b_lenL_, b_lenT_, b_abs_, b_toint_, b_totupL_, b_totupT_, b_tolstL_, b_tolstT_, b_repr_, b_lr1_, b_lr2_, b_lr3_, b_clt_, b_cle_, b_cgt_, b_cge_, b_ceq_, b_cne_, b_cin_, b_cni_, b_badbin_, b_badcmp_, b_wseqL_, b_wseqT_, b_wr1_, b_wr2_, b_wr3_, b_wenL_, b_wenT_, bad_neg_, bad_idx_, bad_rev_, bad_cnt_, bad_len_, bad_sum_, bad_max1_, bad_min1_, bad_max2_, bad_min2_, bad_abs_, bad_toint_, bad_totup_, bad_tolst_, bad_sorted_, bad_repr_, bad_mint_, bad_any_, bad_all_, bad_lrange1_, bad_lrange2_, bad_lrange3_, bad_slc_, bad_dict_, bad_ixL_, bad_ixT_, p20, p21, p10, p30, p31, p32, rd0_, rv0_, ro0_, rl0_, rd1_, rv1_, ro1_, rl1_, rd2_, rv2_, ro2_, rl2_, rd3_, rv3_, ro3_, rl3_, rd4_, rv4_, ro4_, rl4_, rd5_, rv5_, ro5_, rl5_, rd6_, rv6_, ro6_, rl6_, rd7_, rv7_, ro7_, rl7_, rd8_, rv8_, ro8_, rl8_, rd9_, rv9_, ro9_, rl9_, rd10_, rv10_, ro10_, rl10_, rd11_, rv11_, ro11_, rl11_, rd12_, rv12_, ro12_, rl12_, rd13_, rv13_, ro13_, rl13_, rd14_, rv14_, ro14_, rl14_, rd15_, rv15_, ro15_, rl15_, rd16_, rv16_, ro16_, rl16_, rd17_, rv17_, ro17_, rl17_, e]) rfl (place_nat hv) (List.getElem?_eq_getElem hv)]
      rfl
    have hle : (rest.eraseIdx v.toNat).length = ks.length := by rw [List.length_eraseIdx_of_lt hv]; omega
    obtain ⟨zs, y', s', e2, pm, fz2⟩ := mixed_turns hp th ks (rest.eraseIdx v.toNat) (rest[v.toNat] :: acc) (some (false, k)) s1 hle (by omega) (fun d h => by cases h)
    refine ⟨rest[v.toNat] :: zs, y', s', (tn_yes hc).trans (e2.trans ?_), ?_, fz2.trans fz⟩
    · rw [List.reverse_cons, List.append_assoc]; rfl
    · exact (pm.cons _).trans (erase_perm rest v.toNat hv)
theorem mixed_run (hp : PickOk cf) (l : D) (xs : List D) (hl : D.items l = some xs) (h1 : xs.length ≤ 1000) (s : Sr) : ∃ zs s', runF cf F d__law_mixed [.src, l] s = some (.lst zs, s') ∧ zs.Perm xs ∧ s'.fz = s.fz := by
  have hkl : (natsD (List.range xs.length)).length = xs.length := by rw [List.length_map, List.length_range]
  obtain ⟨zs, y', s', e, pm, fz⟩ := mixed_turns cf hp l (natsD (List.range xs.length)) xs [] none s hkl.symm h1 (fun d h => by cases h)
  refine ⟨zs, s', ?_, pm, fz⟩
  have hno : ∀ th : D, noOwn [3] [some (false, .src), some (false, th), some (true, .lst xs), none] = true := fun _ => rfl
  rcases items_two hl with rfl | rfl
  · simp only [run_f, s_st, s_nil', k_nx, k_rt, k_bk, k_ct, m_asg, m_asgO, m_asgT, m_par, m_set, m_app, m_expr, m_ite, m_for, m_ret, m_sput, m_sfill, v_var, v_bor, v_int, v_bl, v_str, v_non, v_sget, v_not, v_and, v_or, v_ife, v_tup, v_lst, v_dnew, v_call, v_bi, v_comp, o_nil', o_bor, e_nil, e_star, t_nil', t_ex, c_turn, asB, asI, isSrc, outR, bindT, bindTs, putsE, fr, szLine, List.length_cons, List.length_nil, List.map_cons, List.map_nil, List.cons_append, List.nil_append, List.append_nil, List.getElem?_cons_zero, List.getElem?_cons_succ, List.set_cons_zero, List.set_cons_succ, List.replicate_zero, List.replicate_succ, List.getD_cons_zero, Nat.reduceSub, Nat.reduceAdd, Option.bind_some, Option.bind_none, Option.map_some, if_true, if_false, Bool.and_true, Bool.true_and, Bool.not_true, Bool.not_false, Bool.or_true, Bool.true_or, Bool.false_or, Bool.or_false, Bool.and_false, Bool.false_and, Bool.and_self, Bool.or_self, Bool.false_eq_true, startE, reduceCtorEq, List.contains_nil, List.contains_cons, Nat.reduceBEq, ite_self, Nat.reduceLeDiff, Nat.reduceEqDiff, Int.reduceLE, Int.reduceLT, Int.reduceNeg, Int.reduceAdd, Int.reduceSub, ↓reduceIte, decide_true, decide_false, true_or, or_true, or_false, false_or, or_self, not_true_eq_false, not_false_eq_true, if_true, itemsL_, itemsT_, o_var_, e_var_, o_mv_, e_mv_, o_rel_, e_rel_, o_int_, e_int_, o_bl_, e_bl_, o_str_, e_str_, o_non_, e_non_, o_not_, e_not_, o_and_, e_and_, o_or_, e_or_, o_ife_, e_ife_, o_tup_, e_tup_, o_lst_, e_lst_, o_dnew_, e_dnew_, o_call_, e_call_, o_bi_, e_bi_, o_pop_, e_pop_, o_popAt_, e_popAt_, o_sget_, e_sget_, o_comp_, e_comp_, e_bor_, b_add_, b_addT_, b_addL_, b_sub_, b_mod_, b_fdiv_, b_cmp_, b_neg_, b_idxL_, b_idxT_, b_idxD_, b_slcTt_, b_slcTf_, b_slcLt_, b_slcLf_, b_revL_, b_lenL_, b_lenT_, b_abs_, b_toint_, b_totupL_, b_totupT_, b_tolstL_, b_tolstT_, b_repr_, b_lr1_, b_lr2_, b_lr3_, b_clt_, b_cle_, b_cgt_, b_cge_, b_ceq_, b_cne_, b_cin_, b_cni_, b_badbin_, b_badcmp_, b_wseqL_, b_wseqT_, b_wr1_, b_wr2_, b_wr3_, b_wenL_, b_wenT_, bad_neg_, bad_idx_, bad_rev_, bad_cnt_, bad_len_, bad_sum_, bad_max1_, bad_min1_, bad_max2_, bad_min2_, bad_abs_, bad_toint_, bad_totup_, bad_tolst_, bad_sorted_, bad_repr_, bad_mint_, bad_any_, bad_all_, bad_lrange1_, bad_lrange2_, bad_lrange3_, bad_slc_, bad_dict_, bad_ixL_, bad_ixT_, p20, p21, p10, p30, p31, p32, rd0_, rv0_, ro0_, rl0_, rd1_, rv1_, ro1_, rl1_, rd2_, rv2_, ro2_, rl2_, rd3_, rv3_, ro3_, rl3_, rd4_, rv4_, ro4_, rl4_, rd5_, rv5_, ro5_, rl5_, rd6_, rv6_, ro6_, rl6_, rd7_, rv7_, ro7_, rl7_, rd8_, rv8_, ro8_, rl8_, rd9_, rv9_, ro9_, rl9_, rd10_, rv10_, ro10_, rl10_, rd11_, rv11_, ro11_, rl11_, rd12_, rv12_, ro12_, rl12_, rd13_, rv13_, ro13_, rl13_, rd14_, rv14_, ro14_, rl14_, rd15_, rv15_, ro15_, rl15_, rd16_, rv16_, ro16_, rl16_, rd17_, rv17_, ro17_, rl17_, d__law_mixed, b__law_mixed, range_up h1, hno, e, List.reverse_nil]
  · simp only [run_f, s_st, s_nil', k_nx, k_rt, k_bk, k_ct, m_asg, m_asgO, m_asgT, m_par, m_set, m_app, m_expr, m_ite, m_for, m_ret, m_sput, m_sfill, v_var, v_bor, v_int, v_bl, v_str, v_non, v_sget, v_not, v_and, v_or, v_ife, v_tup, v_lst, v_dnew, v_call, v_bi, v_comp, o_nil', o_bor, e_nil, e_star, t_nil', t_ex, c_turn, asB, asI, isSrc, outR, bindT, bindTs, putsE, fr, szLine, List.length_cons, List.length_nil, List.map_cons, List.map_nil, List.cons_append, List.nil_append, List.append_nil, List.getElem?_cons_zero, List.getElem?_cons_succ, List.set_cons_zero, List.set_cons_succ, List.replicate_zero, List.replicate_succ, List.getD_cons_zero, Nat.reduceSub, Nat.reduceAdd, Option.bind_some, Option.bind_none, Option.map_some, if_true, if_false, Bool.and_true, Bool.true_and, Bool.not_true, Bool.not_false, Bool.or_true, Bool.true_or, Bool.false_or, Bool.or_false, Bool.and_false, Bool.false_and, Bool.and_self, Bool.or_self, Bool.false_eq_true, startE, reduceCtorEq, List.contains_nil, List.contains_cons, Nat.reduceBEq, ite_self, Nat.reduceLeDiff, Nat.reduceEqDiff, Int.reduceLE, Int.reduceLT, Int.reduceNeg, Int.reduceAdd, Int.reduceSub, ↓reduceIte, decide_true, decide_false, true_or, or_true, or_false, false_or, or_self, not_true_eq_false, not_false_eq_true, if_true, itemsL_, itemsT_, o_var_, e_var_, o_mv_, e_mv_, o_rel_, e_rel_, o_int_, e_int_, o_bl_, e_bl_, o_str_, e_str_, o_non_, e_non_, o_not_, e_not_, o_and_, e_and_, o_or_, e_or_, o_ife_, e_ife_, o_tup_, e_tup_, o_lst_, e_lst_, o_dnew_, e_dnew_, o_call_, e_call_, o_bi_, e_bi_, o_pop_, e_pop_, o_popAt_, e_popAt_, o_sget_, e_sget_, o_comp_, e_comp_, e_bor_, b_add_, b_addT_, b_addL_, b_sub_, b_mod_, b_fdiv_, b_cmp_, b_neg_, b_idxL_, b_idxT_, b_idxD_, b_slcTt_, b_slcTf_, b_slcLt_, b_slcLf_, b_revL_, b_lenL_, b_lenT_, b_abs_, b_toint_, b_totupL_, b_totupT_, b_tolstL_, b_tolstT_, b_repr_, b_lr1_, b_lr2_, b_lr3_, b_clt_, b_cle_, b_cgt_, b_cge_, b_ceq_, b_cne_, b_cin_, b_cni_, b_badbin_, b_badcmp_, b_wseqL_, b_wseqT_, b_wr1_, b_wr2_, b_wr3_, b_wenL_, b_wenT_, bad_neg_, bad_idx_, bad_rev_, bad_cnt_, bad_len_, bad_sum_, bad_max1_, bad_min1_, bad_max2_, bad_min2_, bad_abs_, bad_toint_, bad_totup_, bad_tolst_, bad_sorted_, bad_repr_, bad_mint_, bad_any_, bad_all_, bad_lrange1_, bad_lrange2_, bad_lrange3_, bad_slc_, bad_dict_, bad_ixL_, bad_ixT_, p20, p21, p10, p30, p31, p32, rd0_, rv0_, ro0_, rl0_, rd1_, rv1_, ro1_, rl1_, rd2_, rv2_, ro2_, rl2_, rd3_, rv3_, ro3_, rl3_, rd4_, rv4_, ro4_, rl4_, rd5_, rv5_, ro5_, rl5_, rd6_, rv6_, ro6_, rl6_, rd7_, rv7_, ro7_, rl7_, rd8_, rv8_, ro8_, rl8_, rd9_, rv9_, ro9_, rl9_, rd10_, rv10_, ro10_, rl10_, rd11_, rv11_, ro11_, rl11_, rd12_, rv12_, ro12_, rl12_, rd13_, rv13_, ro13_, rl13_, rd14_, rv14_, ro14_, rl14_, rd15_, rv15_, ro15_, rl15_, rd16_, rv16_, ro16_, rl16_, rd17_, rv17_, ro17_, rl17_, d__law_mixed, b__law_mixed, range_up h1, hno, e, List.reverse_nil]
/-! _law_order -/
theorem perm_ints {zs : List D} {W : List Int} (h : zs.Perm (W.map D.int)) : ∃ R : List Int, zs = R.map .int ∧ R.Perm W := by
  let g : D → Int := fun d => match d with | .int i => i | _ => 0
  have h1 : ∀ z ∈ zs, z = .int (g z) := fun z hz => by
    obtain ⟨w, _, rfl⟩ := List.mem_map.mp (h.mem_iff.mp hz)
    rfl
  refine ⟨zs.map g, ?_, ?_⟩
  · rw [List.map_map]
    exact (List.map_id zs).symm.trans (List.map_congr_left fun z hz => h1 z hz)
  · have := h.map g
    rw [List.map_map] at this
    exact this.trans (by rw [show (g ∘ D.int) = id from rfl, List.map_id])
theorem perm_prs {zs : List D} {W : List (Int × Int)} (h : zs.Perm (W.map pr)) : ∃ R : List (Int × Int), zs = R.map pr ∧ R.Perm W := by
  let g : D → Int × Int := fun d => match d with | .tup [.int i, .int j] => (i, j) | _ => (0, 0)
  have h1 : ∀ z ∈ zs, z = pr (g z) := fun z hz => by
    obtain ⟨w, _, rfl⟩ := List.mem_map.mp (h.mem_iff.mp hz)
    rfl
  refine ⟨zs.map g, ?_, ?_⟩
  · rw [List.map_map]
    exact (List.map_id zs).symm.trans (List.map_congr_left fun z hz => h1 z hz)
  · have := h.map g
    rw [List.map_map] at this
    exact this.trans (by rw [show (g ∘ pr) = id from rfl, List.map_id])
theorem nd_sub {α : Type} [BEq α] [LawfulBEq α] : ∀ {l m : List α}, l.Nodup → (∀ x ∈ l, x ∈ m) → l.length ≤ m.length
  | [], m, _, _ => Nat.zero_le _
  | x :: l, m, h, hs => by
    rw [List.nodup_cons] at h
    have hx := hs x List.mem_cons_self
    have ih := nd_sub (l := l) (m := m.erase x) h.2 fun y hy => (List.mem_erase_of_ne (fun e => h.1 (by rw [← e]; exact hy))).mpr (hs y (List.mem_cons_of_mem _ hy))
    rw [List.length_erase_of_mem hx] at ih
    have := List.length_pos_of_mem hx
    simp only [List.length_cons]; omega
abbrev dicA (R : List Int) (A : Int → List Int) : D := .dct false (R.map fun w => (D.int w, D.lst ((A w).map .int)))
theorem same_int (a b : Int) : D.same (.int a) (.int b) = decide (a = b) := by simp [D.same]
theorem look_dic (A : Int → List Int) (b : Int) : ∀ {R : List Int}, b ∈ R → look (.int b) (R.map fun w => (D.int w, D.lst ((A w).map .int))) = some (.lst ((A b).map .int))
  | [], h => by simp at h
  | w :: R, h => by
    simp only [List.map_cons, look, same_int]
    by_cases e : w = b
    · subst e; simp
    · simp only [decide_eq_false e, Bool.false_eq_true, if_false]
      exact look_dic A b (by rcases List.mem_cons.mp h with h | h; exact absurd h.symm e; exact h)
def updA (A : Int → List Int) (b : Int) (L : List Int) : Int → List Int := fun w => if w = b then L else A w
theorem put_dic (A : Int → List Int) (b : Int) (L : List Int) : ∀ {R : List Int}, R.Nodup → b ∈ R → put (.int b) (.lst (L.map .int)) (R.map fun w => (D.int w, D.lst ((A w).map .int))) = R.map fun w => (D.int w, D.lst ((updA A b L w).map .int))
  | [], _, h => by simp at h
  | w :: R, nd, h => by
    rw [List.nodup_cons] at nd
    simp only [List.map_cons, put, same_int]
    by_cases e : w = b
    · subst e
      simp only [decide_true, if_true, updA, List.cons.injEq, true_and]
      refine List.map_congr_left fun x hx => ?_
      rw [if_neg (fun z => nd.1 (by rw [← z]; exact hx))]
    · simp only [decide_eq_false e, Bool.false_eq_true, if_false, updA, if_neg e, List.cons.injEq, true_and]
      exact put_dic A b L nd.2 (by rcases List.mem_cons.mp h with h | h; exact absurd h.symm e; exact h)
theorem shp_ints (L : List Int) : D.shpL (L.map .int) 60 = true := by
  induction L with
  | nil => rfl
  | cons p r ih => simp only [List.map_cons, D.shpL, ih, Bool.and_true]; rfl
theorem any_int (a : Int) (L : List Int) : ((L.map D.int).any fun x => D.eqv x (.int a)) = L.contains a := by
  induction L with
  | nil => rfl
  | cons p r ih =>
    rw [List.map_cons, List.any_cons, ih, List.contains_cons]
    congr 1
    simp only [D.eqv]
    rw [Bool.eq_iff_iff, decide_eq_true_eq, beq_iff_eq]
    exact eq_comm
theorem in_intL (a : Int) (L : List Int) : inD (.int a) (.lst (L.map .int)) = some (L.contains a) := by
  simp only [inD, shp_ints, any_int]
  rfl
theorem in_intT (a : Int) (L : List Int) : inD (.int a) (.tup (L.map .int)) = some (L.contains a) := by
  simp only [inD, shp_ints, any_int]
  rfl
theorem nd_inj {α : Type} : ∀ {l : List α} {i j : Nat} {a : α}, l.Nodup → l[i]? = some a → l[j]? = some a → i = j
  | [], i, j, a, _, h, _ => by simp at h
  | x :: l, 0, 0, a, _, _, _ => rfl
  | x :: l, 0, j + 1, a, nd, h1, h2 => by
    rw [List.nodup_cons] at nd
    simp at h1 h2
    subst h1
    exact absurd (List.mem_of_getElem? h2) nd.1
  | x :: l, i + 1, 0, a, nd, h1, h2 => by
    rw [List.nodup_cons] at nd
    simp at h1 h2
    subst h2
    exact absurd (List.mem_of_getElem? h1) nd.1
  | x :: l, i + 1, j + 1, a, nd, h1, h2 => by
    rw [List.nodup_cons] at nd
    simp at h1 h2
    rw [nd_inj nd.2 h1 h2]
/-- the places told so far -/
def OkA (R : List Int) (A : Int → List Int) : Prop := ∀ j w, R[j]? = some w → (∀ x ∈ A w, x ∈ R.take j) ∧ (A w).Nodup
theorem OkA.len {R : List Int} {A : Int → List Int} (h : OkA R A) {w : Int} (hw : w ∈ R) : (A w).length ≤ R.length := by
  obtain ⟨j, hj⟩ := List.getElem?_of_mem hw
  obtain ⟨h1, h2⟩ := h j w hj
  have := nd_sub h2 h1
  rw [List.length_take] at this
  omega
def newL (A : Int → List Int) (b a : Int) : List Int := A b ++ [a] ++ (A a).filter fun x => !(A b).contains x
theorem OkA.upd {R : List Int} {A : Int → List Int} (h : OkA R A) (nd : R.Nodup) {k : Nat} {b a : Int} (hb : R[k]? = some b) (ha : a ∈ R.take k) (hn : a ∉ A b) : OkA R (updA A b (newL A b a)) := by
  intro j w hj
  unfold updA
  by_cases e : w = b
  · subst e
    have hjk : j = k := nd_inj nd hj hb
    subst hjk
    rw [if_pos rfl]
    obtain ⟨h1, h2⟩ := h j w hj
    obtain ⟨i, hi⟩ := List.getElem?_of_mem ha
    have hij : i < j := by
      have := (List.getElem?_eq_some_iff.mp hi).1
      rw [List.length_take] at this
      omega
    rw [List.getElem?_take, if_pos hij] at hi
    obtain ⟨h3, h4⟩ := h i a hi
    have sub : ∀ x ∈ R.take i, x ∈ R.take j := fun x hx => by
      have : R.take i = (R.take j).take i := by rw [List.take_take, Nat.min_eq_left (by omega)]
      rw [this] at hx
      exact List.mem_of_mem_take hx
    have nota : a ∉ A a := fun z => by
      have hz := h3 a z
      obtain ⟨m, hm⟩ := List.getElem?_of_mem hz
      have hmi : m < i := by
        have := (List.getElem?_eq_some_iff.mp hm).1
        rw [List.length_take] at this
        omega
      rw [List.getElem?_take, if_pos hmi] at hm
      have := nd_inj nd hi hm
      omega
    refine ⟨fun x hx => ?_, ?_⟩
    · unfold newL at hx
      rcases List.mem_append.mp hx with hx | hx
      · rcases List.mem_append.mp hx with hx | hx
        · exact h1 x hx
        · rw [List.mem_singleton.mp hx]; exact ha
      · exact sub x (h3 x (List.mem_filter.mp hx).1)
    · unfold newL
      rw [List.nodup_append, List.nodup_append]
      refine ⟨⟨h2, by simp, fun x hx y hy e => ?_⟩, h4.filter _, fun x hx y hy e => ?_⟩
      · rw [List.mem_singleton] at hy; rw [e, hy] at hx; exact hn hx
      · obtain ⟨hy1, hy2⟩ := List.mem_filter.mp hy
        subst e
        rcases List.mem_append.mp hx with hx | hx
        · simp at hy2; exact hy2 hx
        · rw [List.mem_singleton] at hx; rw [hx] at hy1; exact nota hy1
  · rw [if_neg e]; exact h j w hj
theorem setD_dct (t : Bool) (kvs : List (D × D)) (k d : D) : setD (.dct t kvs) k d = if (keyOk t k && decide (kvs.length < szLine)) = true then some (.dct t (put k d kvs)) else none := rfl
theorem keyOk_int (b : Int) : keyOk false (.int b) = true := rfl
abbrev bFil : Ex := .bi (.cmp .notin) [.bor 11, .bi .idx [.bor 3, .bor 5]]
abbrev bIn : List Sm := [.ite (.and (.bi (.cmp .notin) [.bor 9, .bi .idx [.bor 3, .bor 5]]) (.bi (.cmp .lt) [.call 12 false [.var 0, .int 6], .bor 7])) [.set 3 [.bor 5] (.bi (.bin .add) [.bi (.bin .add) [.bi .idx [.bor 3, .bor 5], .lst [.var 9]], .comp [11] (.nm 11) .seq [.bi .idx [.bor 3, .bor 9]] [bFil] (.var 11)])] []]
section
variable (R : List Int) (x1 x4 x6 x8 : Option (Bool × D)) (b sh : Int)
abbrev EI (A : Int → List Int) (y9 y11 : Option (Bool × D)) : Env := [some (false, .src), x1, some (false, .lst (R.map .int)), some (true, dicA R A), x4, some (false, .int b), x6, some (false, .int sh), x8, y9, none, y11]
theorem fil_turns (A : Int → List Int) (hb : b ∈ R) (y9 : Option (Bool × D)) : ∀ (xs : List Int) (acc : List D) (y11 : Option (Bool × D)) (s : Sr), ∃ y', turns (cTurn cf [11] (.nm 11) [bFil] (.var 11)) (xs.map .int) acc (EI R x1 x4 x6 x8 b sh A y9 y11) s = some (acc.reverse ++ (xs.filter fun x => !(A b).contains x).map .int, EI R x1 x4 x6 x8 b sh A y9 y', s)
  | [], acc, y11, s => ⟨y11, by simp only [List.map_nil, List.filter_nil, List.append_nil]; rfl⟩
  | x :: xs, acc, y11, s => by
    have hc : cTurn cf [11] (.nm 11) [bFil] (.var 11) (.int x) (EI R x1 x4 x6 x8 b sh A y9 y11) s = some (if (A b).contains x then none else some (.int x), EI R x1 x4 x6 x8 b sh A y9 (some (false, .int x)), s) := by
      rw [c_turn]
      show (bindT (.nm 11) (.int x) (EI R x1 x4 x6 x8 b sh A y9 none)).bind _ = _
      rw [bind_nm (fun d h => by cases h)]
      simp only [run_f, s_st, s_nil', k_nx, k_rt, k_bk, k_ct, m_asg, m_asgO, m_asgT, m_par, m_set, m_app, m_expr, m_ite, m_for, m_ret, m_sput, m_sfill, v_var, v_bor, v_int, v_bl, v_str, v_non, v_sget, v_not, v_and, v_or, v_ife, v_tup, v_lst, v_dnew, v_call, v_bi, v_comp, o_nil', o_bor, e_nil, e_star, t_nil', t_ex, c_turn, asB, asI, isSrc, outR, bindT, bindTs, putsE, fr, szLine, List.length_cons, List.length_nil, List.map_cons, List.map_nil, List.cons_append, List.nil_append, List.append_nil, List.getElem?_cons_zero, List.getElem?_cons_succ, List.set_cons_zero, List.set_cons_succ, List.replicate_zero, List.replicate_succ, List.getD_cons_zero, Nat.reduceSub, Nat.reduceAdd, Option.bind_some, Option.bind_none, Option.map_some, if_true, if_false, Bool.and_true, Bool.true_and, Bool.not_true, Bool.not_false, Bool.or_true, Bool.true_or, Bool.false_or, Bool.or_false, Bool.and_false, Bool.false_and, Bool.and_self, Bool.or_self, Bool.false_eq_true, startE, reduceCtorEq, List.contains_nil, List.contains_cons, Nat.reduceBEq, ite_self, Nat.reduceLeDiff, Nat.reduceEqDiff, Int.reduceLE, Int.reduceLT, Int.reduceNeg, Int.reduceAdd, Int.reduceSub, ↓reduceIte, decide_true, decide_false, true_or, or_true, or_false, false_or, or_self, not_true_eq_false, not_false_eq_true, if_true, itemsL_, itemsT_, o_var_, e_var_, o_mv_, e_mv_, o_rel_, e_rel_, o_int_, e_int_, o_bl_, e_bl_, o_str_, e_str_, o_non_, e_non_, o_not_, e_not_, o_and_, e_and_, o_or_, e_or_, o_ife_, e_ife_, o_tup_, e_tup_, o_lst_, e_lst_, o_dnew_, e_dnew_, o_call_, e_call_, o_bi_, e_bi_, o_pop_, e_pop_, o_popAt_, e_popAt_, o_sget_, e_sget_, o_comp_, e_comp_, e_bor_, b_add_, b_addT_, b_addL_, b_sub_, b_mod_, b_fdiv_, b_cmp_, b_neg_, b_idxL_, b_idxT_, b_idxD_, b_slcTt_, b_slcTf_, b_slcLt_, b_slcLf_, b_revL_, b_lenL_, b_lenT_, b_abs_, b_toint_, b_totupL_, b_totupT_, b_tolstL_, b_tolstT_, b_repr_, b_lr1_, b_lr2_, b_lr3_, b_clt_, b_cle_, b_cgt_, b_cge_, b_ceq_, b_cne_, b_cin_, b_cni_, b_badbin_, b_badcmp_, b_wseqL_, b_wseqT_, b_wr1_, b_wr2_, b_wr3_, b_wenL_, b_wenT_, bad_neg_, bad_idx_, bad_rev_, bad_cnt_, bad_len_, bad_sum_, bad_max1_, bad_min1_, bad_max2_, bad_min2_, bad_abs_, bad_toint_, bad_totup_, bad_tolst_, bad_sorted_, bad_repr_, bad_mint_, bad_any_, bad_all_, bad_lrange1_, bad_lrange2_, bad_lrange3_, bad_slc_, bad_dict_, bad_ixL_, bad_ixT_, p20, p21, p10, p30, p31, p32, rd0_, rv0_, ro0_, rl0_, rd1_, rv1_, ro1_, rl1_, rd2_, rv2_, ro2_, rl2_, rd3_, rv3_, ro3_, rl3_, rd4_, rv4_, ro4_, rl4_, rd5_, rv5_, ro5_, rl5_, rd6_, rv6_, ro6_, rl6_, rd7_, rv7_, ro7_, rl7_, rd8_, rv8_, ro8_, rl8_, rd9_, rv9_, ro9_, rl9_, rd10_, rv10_, ro10_, rl10_, rd11_, rv11_, ro11_, rl11_, rd12_, rv12_, ro12_, rl12_, rd13_, rv13_, ro13_, rl13_, rd14_, rv14_, ro14_, rl14_, rd15_, rv15_, ro15_, rl15_, rd16_, rv16_, ro16_, rl16_, rd17_, rv17_, ro17_, rl17_, keyOk_int, look_dic A b hb, in_intL]
      cases (A b).contains x <;> simp only [run_f, s_st, s_nil', k_nx, k_rt, k_bk, k_ct, m_asg, m_asgO, m_asgT, m_par, m_set, m_app, m_expr, m_ite, m_for, m_ret, m_sput, m_sfill, v_var, v_bor, v_int, v_bl, v_str, v_non, v_sget, v_not, v_and, v_or, v_ife, v_tup, v_lst, v_dnew, v_call, v_bi, v_comp, o_nil', o_bor, e_nil, e_star, t_nil', t_ex, c_turn, asB, asI, isSrc, outR, bindT, bindTs, putsE, fr, szLine, List.length_cons, List.length_nil, List.map_cons, List.map_nil, List.cons_append, List.nil_append, List.append_nil, List.getElem?_cons_zero, List.getElem?_cons_succ, List.set_cons_zero, List.set_cons_succ, List.replicate_zero, List.replicate_succ, List.getD_cons_zero, Nat.reduceSub, Nat.reduceAdd, Option.bind_some, Option.bind_none, Option.map_some, if_true, if_false, Bool.and_true, Bool.true_and, Bool.not_true, Bool.not_false, Bool.or_true, Bool.true_or, Bool.false_or, Bool.or_false, Bool.and_false, Bool.false_and, Bool.and_self, Bool.or_self, Bool.false_eq_true, startE, reduceCtorEq, List.contains_nil, List.contains_cons, Nat.reduceBEq, ite_self, Nat.reduceLeDiff, Nat.reduceEqDiff, Int.reduceLE, Int.reduceLT, Int.reduceNeg, Int.reduceAdd, Int.reduceSub, ↓reduceIte, decide_true, decide_false, true_or, or_true, or_false, false_or, or_self, not_true_eq_false, not_false_eq_true, if_true, itemsL_, itemsT_, o_var_, e_var_, o_mv_, e_mv_, o_rel_, e_rel_, o_int_, e_int_, o_bl_, e_bl_, o_str_, e_str_, o_non_, e_non_, o_not_, e_not_, o_and_, e_and_, o_or_, e_or_, o_ife_, e_ife_, o_tup_, e_tup_, o_lst_, e_lst_, o_dnew_, e_dnew_, o_call_, e_call_, o_bi_, e_bi_, o_pop_, e_pop_, o_popAt_, e_popAt_, o_sget_, e_sget_, o_comp_, e_comp_, e_bor_, b_add_, b_addT_, b_addL_, b_sub_, b_mod_, b_fdiv_, b_cmp_, b_neg_, b_idxL_, b_idxT_, b_idxD_, b_slcTt_, b_slcTf_, b_slcLt_, b_slcLf_, b_revL_, b_lenL_, b_lenT_, b_abs_, b_toint_, b_totupL_, b_totupT_, b_tolstL_, b_tolstT_, b_repr_, b_lr1_, b_lr2_, b_lr3_, b_clt_, b_cle_, b_cgt_, b_cge_, b_ceq_, b_cne_, b_cin_, b_cni_, b_badbin_, b_badcmp_, b_wseqL_, b_wseqT_, b_wr1_, b_wr2_, b_wr3_, b_wenL_, b_wenT_, bad_neg_, bad_idx_, bad_rev_, bad_cnt_, bad_len_, bad_sum_, bad_max1_, bad_min1_, bad_max2_, bad_min2_, bad_abs_, bad_toint_, bad_totup_, bad_tolst_, bad_sorted_, bad_repr_, bad_mint_, bad_any_, bad_all_, bad_lrange1_, bad_lrange2_, bad_lrange3_, bad_slc_, bad_dict_, bad_ixL_, bad_ixT_, p20, p21, p10, p30, p31, p32, rd0_, rv0_, ro0_, rl0_, rd1_, rv1_, ro1_, rl1_, rd2_, rv2_, ro2_, rl2_, rd3_, rv3_, ro3_, rl3_, rd4_, rv4_, ro4_, rl4_, rd5_, rv5_, ro5_, rl5_, rd6_, rv6_, ro6_, rl6_, rd7_, rv7_, ro7_, rl7_, rd8_, rv8_, ro8_, rl8_, rd9_, rv9_, ro9_, rl9_, rd10_, rv10_, ro10_, rl10_, rd11_, rv11_, ro11_, rl11_, rd12_, rv12_, ro12_, rl12_, rd13_, rv13_, ro13_, rl13_, rd14_, rv14_, ro14_, rl14_, rd15_, rv15_, ro15_, rl15_, rd16_, rv16_, ro16_, rl16_, rd17_, rv17_, ro17_, rl17_]
    cases hx : (A b).contains x with
    | true =>
      rw [hx] at hc
      obtain ⟨y', ih⟩ := fil_turns A hb y9 xs acc (some (false, .int x)) s
      refine ⟨y', (tn_no hc).trans (ih.trans ?_)⟩
      rw [List.filter_cons, hx]; rfl
    | false =>
      rw [hx] at hc
      obtain ⟨y', ih⟩ := fil_turns A hb y9 xs (.int x :: acc) (some (false, .int x)) s
      refine ⟨y', (tn_yes hc).trans (ih.trans ?_)⟩
      rw [List.filter_cons, hx, List.reverse_cons, List.append_assoc]; rfl
theorem inner_for (hp : PickOk cf) (nd : R.Nodup) (hR : R.length ≤ 100) {k : Nat} (hb : R[k]? = some b) (ff : Bool) : ∀ (as : List Int) (A : Int → List Int) (y9 : Option (Bool × D)) (s : Sr), (∀ a ∈ as, a ∈ R.take k) → OkA R A → (∀ d, y9 ≠ some (true, d)) →
    ∃ A' y' s', forT (forB cf ff F (.nm 9) bIn) (as.map .int) (EI R x1 x4 x6 x8 b sh A y9 none) s = some (.nx (EI R x1 x4 x6 x8 b sh A' y' none) s') ∧ OkA R A' ∧ s'.fz = s.fz ∧ (∀ d, y' ≠ some (true, d))
  | [], A, y9, s, _, hA, hy => ⟨A, y9, s, rfl, hA, rfl, hy⟩
  | a :: as, A, y9, s, has, hA, hy => by
    have hbm := List.mem_of_getElem? hb
    have ha := has a List.mem_cons_self
    have haR := List.mem_of_mem_take ha
    have hbind : bindT (.nm 9) (.int a) (EI R x1 x4 x6 x8 b sh A y9 none) = some (EI R x1 x4 x6 x8 b sh A (some (false, .int a)) none) := by
      rw [bind_nm (fun d h => hy d (by simpa using h))]
      simp only [run_f, s_st, s_nil', k_nx, k_rt, k_bk, k_ct, m_asg, m_asgO, m_asgT, m_par, m_set, m_app, m_expr, m_ite, m_for, m_ret, m_sput, m_sfill, v_var, v_bor, v_int, v_bl, v_str, v_non, v_sget, v_not, v_and, v_or, v_ife, v_tup, v_lst, v_dnew, v_call, v_bi, v_comp, o_nil', o_bor, e_nil, e_star, t_nil', t_ex, c_turn, asB, asI, isSrc, outR, bindT, bindTs, putsE, fr, szLine, List.length_cons, List.length_nil, List.map_cons, List.map_nil, List.cons_append, List.nil_append, List.append_nil, List.getElem?_cons_zero, List.getElem?_cons_succ, List.set_cons_zero, List.set_cons_succ, List.replicate_zero, List.replicate_succ, List.getD_cons_zero, Nat.reduceSub, Nat.reduceAdd, Option.bind_some, Option.bind_none, Option.map_some, if_true, if_false, Bool.and_true, Bool.true_and, Bool.not_true, Bool.not_false, Bool.or_true, Bool.true_or, Bool.false_or, Bool.or_false, Bool.and_false, Bool.false_and, Bool.and_self, Bool.or_self, Bool.false_eq_true, startE, reduceCtorEq, List.contains_nil, List.contains_cons, Nat.reduceBEq, ite_self, Nat.reduceLeDiff, Nat.reduceEqDiff, Int.reduceLE, Int.reduceLT, Int.reduceNeg, Int.reduceAdd, Int.reduceSub, ↓reduceIte, decide_true, decide_false, true_or, or_true, or_false, false_or, or_self, not_true_eq_false, not_false_eq_true, if_true, itemsL_, itemsT_, o_var_, e_var_, o_mv_, e_mv_, o_rel_, e_rel_, o_int_, e_int_, o_bl_, e_bl_, o_str_, e_str_, o_non_, e_non_, o_not_, e_not_, o_and_, e_and_, o_or_, e_or_, o_ife_, e_ife_, o_tup_, e_tup_, o_lst_, e_lst_, o_dnew_, e_dnew_, o_call_, e_call_, o_bi_, e_bi_, o_pop_, e_pop_, o_popAt_, e_popAt_, o_sget_, e_sget_, o_comp_, e_comp_, e_bor_, b_add_, b_addT_, b_addL_, b_sub_, b_mod_, b_fdiv_, b_cmp_, b_neg_, b_idxL_, b_idxT_, b_idxD_, b_slcTt_, b_slcTf_, b_slcLt_, b_slcLf_, b_revL_, b_lenL_, b_lenT_, b_abs_, b_toint_, b_totupL_, b_totupT_, b_tolstL_, b_tolstT_, b_repr_, b_lr1_, b_lr2_, b_lr3_, b_clt_, b_cle_, b_cgt_, b_cge_, b_ceq_, b_cne_, b_cin_, b_cni_, b_badbin_, b_badcmp_, b_wseqL_, b_wseqT_, b_wr1_, b_wr2_, b_wr3_, b_wenL_, b_wenT_, bad_neg_, bad_idx_, bad_rev_, bad_cnt_, bad_len_, bad_sum_, bad_max1_, bad_min1_, bad_max2_, bad_min2_, bad_abs_, bad_toint_, bad_totup_, bad_tolst_, bad_sorted_, bad_repr_, bad_mint_, bad_any_, bad_all_, bad_lrange1_, bad_lrange2_, bad_lrange3_, bad_slc_, bad_dict_, bad_ixL_, bad_ixT_, p20, p21, p10, p30, p31, p32, rd0_, rv0_, ro0_, rl0_, rd1_, rv1_, ro1_, rl1_, rd2_, rv2_, ro2_, rl2_, rd3_, rv3_, ro3_, rl3_, rd4_, rv4_, ro4_, rl4_, rd5_, rv5_, ro5_, rl5_, rd6_, rv6_, ro6_, rl6_, rd7_, rv7_, ro7_, rl7_, rd8_, rv8_, ro8_, rl8_, rd9_, rv9_, ro9_, rl9_, rd10_, rv10_, ro10_, rl10_, rd11_, rv11_, ro11_, rl11_, rd12_, rv12_, ro12_, rl12_, rd13_, rv13_, ro13_, rl13_, rd14_, rv14_, ro14_, rl14_, rd15_, rv15_, ro15_, rl15_, rd16_, rv16_, ro16_, rl16_, rd17_, rv17_, ro17_, rl17_]
    have step : ∃ A1 s1, forB cf ff F (.nm 9) bIn (.int a) (EI R x1 x4 x6 x8 b sh A y9 none) s = some (.nx (EI R x1 x4 x6 x8 b sh A1 (some (false, .int a)) none) s1) ∧ OkA R A1 ∧ s1.fz = s.fz := by
      unfold forB
      rw [hbind]
      cases hc : (A b).contains a with
      | true =>
        refine ⟨A, s, ?_, hA, rfl⟩
        simp only [run_f, s_st, s_nil', k_nx, k_rt, k_bk, k_ct, m_asg, m_asgO, m_asgT, m_par, m_set, m_app, m_expr, m_ite, m_for, m_ret, m_sput, m_sfill, v_var, v_bor, v_int, v_bl, v_str, v_non, v_sget, v_not, v_and, v_or, v_ife, v_tup, v_lst, v_dnew, v_call, v_bi, v_comp, o_nil', o_bor, e_nil, e_star, t_nil', t_ex, c_turn, asB, asI, isSrc, outR, bindT, bindTs, putsE, fr, szLine, List.length_cons, List.length_nil, List.map_cons, List.map_nil, List.cons_append, List.nil_append, List.append_nil, List.getElem?_cons_zero, List.getElem?_cons_succ, List.set_cons_zero, List.set_cons_succ, List.replicate_zero, List.replicate_succ, List.getD_cons_zero, Nat.reduceSub, Nat.reduceAdd, Option.bind_some, Option.bind_none, Option.map_some, if_true, if_false, Bool.and_true, Bool.true_and, Bool.not_true, Bool.not_false, Bool.or_true, Bool.true_or, Bool.false_or, Bool.or_false, Bool.and_false, Bool.false_and, Bool.and_self, Bool.or_self, Bool.false_eq_true, startE, reduceCtorEq, List.contains_nil, List.contains_cons, Nat.reduceBEq, ite_self, Nat.reduceLeDiff, Nat.reduceEqDiff, Int.reduceLE, Int.reduceLT, Int.reduceNeg, Int.reduceAdd, Int.reduceSub, ↓reduceIte, decide_true, decide_false, true_or, or_true, or_false, false_or, or_self, not_true_eq_false, not_false_eq_true, if_true, itemsL_, itemsT_, o_var_, e_var_, o_mv_, e_mv_, o_rel_, e_rel_, o_int_, e_int_, o_bl_, e_bl_, o_str_, e_str_, o_non_, e_non_, o_not_, e_not_, o_and_, e_and_, o_or_, e_or_, o_ife_, e_ife_, o_tup_, e_tup_, o_lst_, e_lst_, o_dnew_, e_dnew_, o_call_, e_call_, o_bi_, e_bi_, o_pop_, e_pop_, o_popAt_, e_popAt_, o_sget_, e_sget_, o_comp_, e_comp_, e_bor_, b_add_, b_addT_, b_addL_, b_sub_, b_mod_, b_fdiv_, b_cmp_, b_neg_, b_idxL_, b_idxT_, b_idxD_, b_slcTt_, b_slcTf_, b_slcLt_, b_slcLf_, b_revL_, b_lenL_, b_lenT_, b_abs_, b_toint_, b_totupL_, b_totupT_, b_tolstL_, b_tolstT_, b_repr_, b_lr1_, b_lr2_, b_lr3_, b_clt_, b_cle_, b_cgt_, b_cge_, b_ceq_, b_cne_, b_cin_, b_cni_, b_badbin_, b_badcmp_, b_wseqL_, b_wseqT_, b_wr1_, b_wr2_, b_wr3_, b_wenL_, b_wenT_, bad_neg_, bad_idx_, bad_rev_, bad_cnt_, bad_len_, bad_sum_, bad_max1_, bad_min1_, bad_max2_, bad_min2_, bad_abs_, bad_toint_, bad_totup_, bad_tolst_, bad_sorted_, bad_repr_, bad_mint_, bad_any_, bad_all_, bad_lrange1_, bad_lrange2_, bad_lrange3_, bad_slc_, bad_dict_, bad_ixL_, bad_ixT_, p20, p21, p10, p30, p31, p32, rd0_, rv0_, ro0_, rl0_, rd1_, rv1_, ro1_, rl1_, rd2_, rv2_, ro2_, rl2_, rd3_, rv3_, ro3_, rl3_, rd4_, rv4_, ro4_, rl4_, rd5_, rv5_, ro5_, rl5_, rd6_, rv6_, ro6_, rl6_, rd7_, rv7_, ro7_, rl7_, rd8_, rv8_, ro8_, rl8_, rd9_, rv9_, ro9_, rl9_, rd10_, rv10_, ro10_, rl10_, rd11_, rv11_, ro11_, rl11_, rd12_, rv12_, ro12_, rl12_, rd13_, rv13_, ro13_, rl13_, rd14_, rv14_, ro14_, rl14_, rd15_, rv15_, ro15_, rl15_, rd16_, rv16_, ro16_, rl16_, rd17_, rv17_, ro17_, rl17_, keyOk_int, look_dic A b hbm, in_intL, hc]
      | false =>
        obtain ⟨v, s1, e, fz, _, _⟩ := hp 6 s (by decide)
        by_cases hv : v < sh
        · refine ⟨updA A b (newL A b a), s1, ?_, hA.upd nd hb ha (by simpa using hc), fz⟩
          obtain ⟨y', ht⟩ := fil_turns cf R x1 x4 x6 x8 b sh A hbm (some (false, .int a)) (A a) [] none s1
          have hno : noOwn [11] (EI R x1 x4 x6 x8 b sh A (some (false, .int a)) none) = true := rfl
          have hbk : ∀ y, backE [11] (EI R x1 x4 x6 x8 b sh A (some (false, .int a)) none) (EI R x1 x4 x6 x8 b sh A (some (false, .int a)) y) = EI R x1 x4 x6 x8 b sh A (some (false, .int a)) none := fun y => rfl
          have l1 := hA.len hbm
          have l2 := hA.len haR
          have l3 : ((A b).map D.int).length + 1 ≤ 16777216 := by rw [List.length_map]; omega
          have l4 : ((A b).map D.int ++ [D.int a]).length + (([] : List D).reverse ++ ((A a).filter fun x => !(A b).contains x).map D.int).length ≤ 16777216 := by
            simp only [List.length_append, List.length_map, List.length_singleton, List.reverse_nil, List.length_nil]
            have := List.length_filter_le (fun x => !(A b).contains x) (A a)
            omega
          have l5 : ((R.map fun w => (D.int w, D.lst ((A w).map .int))).length < 16777216) = True := by rw [List.length_map]; exact eq_true (by omega)
          have hput := put_dic A b (newL A b a) nd hbm
          have hnew : (newL A b a).map D.int = (A b).map D.int ++ [D.int a] ++ (([] : List D).reverse ++ ((A a).filter fun x => !(A b).contains x).map D.int) := by
            unfold newL; simp
          rw [hnew] at hput
          simp only [run_f, s_st, s_nil', k_nx, k_rt, k_bk, k_ct, m_asg, m_asgO, m_asgT, m_par, m_set, m_app, m_expr, m_ite, m_for, m_ret, m_sput, m_sfill, v_var, v_bor, v_int, v_bl, v_str, v_non, v_sget, v_not, v_and, v_or, v_ife, v_tup, v_lst, v_dnew, v_call, v_bi, v_comp, o_nil', o_bor, e_nil, e_star, t_nil', t_ex, c_turn, asB, asI, isSrc, outR, bindT, bindTs, putsE, fr, szLine, List.length_cons, List.length_nil, List.map_cons, List.map_nil, List.cons_append, List.nil_append, List.append_nil, List.getElem?_cons_zero, List.getElem?_cons_succ, List.set_cons_zero, List.set_cons_succ, List.replicate_zero, List.replicate_succ, List.getD_cons_zero, Nat.reduceSub, Nat.reduceAdd, Option.bind_some, Option.bind_none, Option.map_some, if_true, if_false, Bool.and_true, Bool.true_and, Bool.not_true, Bool.not_false, Bool.or_true, Bool.true_or, Bool.false_or, Bool.or_false, Bool.and_false, Bool.false_and, Bool.and_self, Bool.or_self, Bool.false_eq_true, startE, reduceCtorEq, List.contains_nil, List.contains_cons, Nat.reduceBEq, ite_self, Nat.reduceLeDiff, Nat.reduceEqDiff, Int.reduceLE, Int.reduceLT, Int.reduceNeg, Int.reduceAdd, Int.reduceSub, ↓reduceIte, decide_true, decide_false, true_or, or_true, or_false, false_or, or_self, not_true_eq_false, not_false_eq_true, if_true, itemsL_, itemsT_, o_var_, e_var_, o_mv_, e_mv_, o_rel_, e_rel_, o_int_, e_int_, o_bl_, e_bl_, o_str_, e_str_, o_non_, e_non_, o_not_, e_not_, o_and_, e_and_, o_or_, e_or_, o_ife_, e_ife_, o_tup_, e_tup_, o_lst_, e_lst_, o_dnew_, e_dnew_, o_call_, e_call_, o_bi_, e_bi_, o_pop_, e_pop_, o_popAt_, e_popAt_, o_sget_, e_sget_, o_comp_, e_comp_, e_bor_, b_add_, b_addT_, b_addL_, b_sub_, b_mod_, b_fdiv_, b_cmp_, b_neg_, b_idxL_, b_idxT_, b_idxD_, b_slcTt_, b_slcTf_, b_slcLt_, b_slcLf_, b_revL_, b_lenL_, b_lenT_, b_abs_, b_toint_, b_totupL_, b_totupT_, b_tolstL_, b_tolstT_, b_repr_, b_lr1_, b_lr2_, b_lr3_, b_clt_, b_cle_, b_cgt_, b_cge_, b_ceq_, b_cne_, b_cin_, b_cni_, b_badbin_, b_badcmp_, b_wseqL_, b_wseqT_, b_wr1_, b_wr2_, b_wr3_, b_wenL_, b_wenT_, bad_neg_, bad_idx_, bad_rev_, bad_cnt_, bad_len_, bad_sum_, bad_max1_, bad_min1_, bad_max2_, bad_min2_, bad_abs_, bad_toint_, bad_totup_, bad_tolst_, bad_sorted_, bad_repr_, bad_mint_, bad_any_, bad_all_, bad_lrange1_, bad_lrange2_, bad_lrange3_, bad_slc_, bad_dict_, bad_ixL_, bad_ixT_, p20, p21, p10, p30, p31, p32, rd0_, rv0_, ro0_, rl0_, rd1_, rv1_, ro1_, rl1_, rd2_, rv2_, ro2_, rl2_, rd3_, rv3_, ro3_, rl3_, rd4_, rv4_, ro4_, rl4_, rd5_, rv5_, ro5_, rl5_, rd6_, rv6_, ro6_, rl6_, rd7_, rv7_, ro7_, rl7_, rd8_, rv8_, ro8_, rl8_, rd9_, rv9_, ro9_, rl9_, rd10_, rv10_, ro10_, rl10_, rd11_, rv11_, ro11_, rl11_, rd12_, rv12_, ro12_, rl12_, rd13_, rv13_, ro13_, rl13_, rd14_, rv14_, ro14_, rl14_, rd15_, rv15_, ro15_, rl15_, rd16_, rv16_, ro16_, rl16_, rd17_, rv17_, ro17_, rl17_, keyOk_int, look_dic A b hbm, look_dic A a haR, in_intL, hc, e, decide_eq_true hv, hno, ht, hbk, l3, l4, setD_dct, l5, hput]
        · refine ⟨A, s1, ?_, hA, fz⟩
          simp only [run_f, s_st, s_nil', k_nx, k_rt, k_bk, k_ct, m_asg, m_asgO, m_asgT, m_par, m_set, m_app, m_expr, m_ite, m_for, m_ret, m_sput, m_sfill, v_var, v_bor, v_int, v_bl, v_str, v_non, v_sget, v_not, v_and, v_or, v_ife, v_tup, v_lst, v_dnew, v_call, v_bi, v_comp, o_nil', o_bor, e_nil, e_star, t_nil', t_ex, c_turn, asB, asI, isSrc, outR, bindT, bindTs, putsE, fr, szLine, List.length_cons, List.length_nil, List.map_cons, List.map_nil, List.cons_append, List.nil_append, List.append_nil, List.getElem?_cons_zero, List.getElem?_cons_succ, List.set_cons_zero, List.set_cons_succ, List.replicate_zero, List.replicate_succ, List.getD_cons_zero, Nat.reduceSub, Nat.reduceAdd, Option.bind_some, Option.bind_none, Option.map_some, if_true, if_false, Bool.and_true, Bool.true_and, Bool.not_true, Bool.not_false, Bool.or_true, Bool.true_or, Bool.false_or, Bool.or_false, Bool.and_false, Bool.false_and, Bool.and_self, Bool.or_self, Bool.false_eq_true, startE, reduceCtorEq, List.contains_nil, List.contains_cons, Nat.reduceBEq, ite_self, Nat.reduceLeDiff, Nat.reduceEqDiff, Int.reduceLE, Int.reduceLT, Int.reduceNeg, Int.reduceAdd, Int.reduceSub, ↓reduceIte, decide_true, decide_false, true_or, or_true, or_false, false_or, or_self, not_true_eq_false, not_false_eq_true, if_true, itemsL_, itemsT_, o_var_, e_var_, o_mv_, e_mv_, o_rel_, e_rel_, o_int_, e_int_, o_bl_, e_bl_, o_str_, e_str_, o_non_, e_non_, o_not_, e_not_, o_and_, e_and_, o_or_, e_or_, o_ife_, e_ife_, o_tup_, e_tup_, o_lst_, e_lst_, o_dnew_, e_dnew_, o_call_, e_call_, o_bi_, e_bi_, o_pop_, e_pop_, o_popAt_, e_popAt_, o_sget_, e_sget_, o_comp_, e_comp_, e_bor_, b_add_, b_addT_, b_addL_, b_sub_, b_mod_, b_fdiv_, b_cmp_, b_neg_, b_idxL_, b_idxT_, b_idxD_, b_slcTt_, b_slcTf_, b_slcLt_, b_slcLf_, b_revL_, b_lenL_, b_lenT_, b_abs_, b_toint_, b_totupL_, b_totupT_, b_tolstL_, b_tolstT_, b_repr_, b_lr1_, b_lr2_, b_lr3_, b_clt_, b_cle_, b_cgt_, b_cge_, b_ceq_, b_cne_, b_cin_, b_cni_, b_badbin_, b_badcmp_, b_wseqL_, b_wseqT_, b_wr1_, b_wr2_, b_wr3_, b_wenL_, b_wenT_, bad_neg_, bad_idx_, bad_rev_, bad_cnt_, bad_len_, bad_sum_, bad_max1_, bad_min1_, bad_max2_, bad_min2_, bad_abs_, bad_toint_, bad_totup_, bad_tolst_, bad_sorted_, bad_repr_, bad_mint_, bad_any_, bad_all_, bad_lrange1_, bad_lrange2_, bad_lrange3_, bad_slc_, bad_dict_, bad_ixL_, bad_ixT_, p20, p21, p10, p30, p31, p32, rd0_, rv0_, ro0_, rl0_, rd1_, rv1_, ro1_, rl1_, rd2_, rv2_, ro2_, rl2_, rd3_, rv3_, ro3_, rl3_, rd4_, rv4_, ro4_, rl4_, rd5_, rv5_, ro5_, rl5_, rd6_, rv6_, ro6_, rl6_, rd7_, rv7_, ro7_, rl7_, rd8_, rv8_, ro8_, rl8_, rd9_, rv9_, ro9_, rl9_, rd10_, rv10_, ro10_, rl10_, rd11_, rv11_, ro11_, rl11_, rd12_, rv12_, ro12_, rl12_, rd13_, rv13_, ro13_, rl13_, rd14_, rv14_, ro14_, rl14_, rd15_, rv15_, ro15_, rl15_, rd16_, rv16_, ro16_, rl16_, rd17_, rv17_, ro17_, rl17_, keyOk_int, look_dic A b hbm, in_intL, hc, e, decide_eq_false hv]
    obtain ⟨A1, s1, h1, hA1, fz1⟩ := step
    obtain ⟨A', y', s', h2, hA', fz2, hy'⟩ := inner_for hp nd hR hb ff as A1 (some (false, .int a)) s1 (fun x hx => has x (List.mem_cons_of_mem _ hx)) hA1 (fun d h => by cases h)
    exact ⟨A', y', s', (f_step h1).trans h2, hA', fz2.trans fz1, hy'⟩
abbrev EO (A : Int → List Int) (y5 y8 y9 : Option (Bool × D)) : Env := [some (false, .src), x1, some (false, .lst (R.map .int)), some (true, dicA R A), x4, y5, x6, some (false, .int sh), y8, y9, none, none]
abbrev nOw (y : Option (Bool × D)) : Prop := ∀ d, y ≠ some (true, d)
theorem outer_for (hp : PickOk cf) (nd : R.Nodup) (hR : R.length ≤ 100) (ff : Bool) : ∀ (ks : List (Nat × Int)) (A : Int → List Int) (y5 y8 y9 : Option (Bool × D)) (s : Sr), (∀ p ∈ ks, R[p.1]? = some p.2) → OkA R A → nOw y5 → nOw y8 → nOw y9 →
    ∃ A' z5 z8 z9 s', forT (forB cf ff F (.tp [.nm 8, .nm 5]) [.for (.nm 9) .seq [.bi .rev [.bi (.slc false true) [.bor 2, .non, .var 8]]] bIn]) (ks.map fun p => .tup [.int (p.1 : Int), .int p.2]) (EO R x1 x4 x6 sh A y5 y8 y9) s = some (.nx (EO R x1 x4 x6 sh A' z5 z8 z9) s') ∧ OkA R A' ∧ s'.fz = s.fz ∧ nOw z5 ∧ nOw z8 ∧ nOw z9
  | [], A, y5, y8, y9, s, _, hA, h5, h8, h9 => ⟨A, y5, y8, y9, s, rfl, hA, rfl, h5, h8, h9⟩
  | (k, b) :: ks, A, y5, y8, y9, s, hk, hA, h5, h8, h9 => by
    have hb : R[k]? = some b := hk (k, b) List.mem_cons_self
    have hkl : k ≤ R.length := Nat.le_of_lt (List.getElem?_eq_some_iff.mp hb).1
    obtain ⟨A1, z9, s1, e1, hA1, fz1, hz9⟩ := inner_for cf F R x1 x4 x6 (some (false, .int k)) b sh hp nd hR hb ff (R.take k).reverse A y9 s (fun a ha => by simpa using ha) hA h9
    have hbind : bindT (.tp [.nm 8, .nm 5]) (.tup [.int (k : Int), .int b]) (EO R x1 x4 x6 sh A y5 y8 y9) = some (EI R x1 x4 x6 (some (false, .int k)) b sh A y9 none) := by
      simp only [bindT.eq_2, bindTs]
      rw [bind_nm (fun d h => h8 d (by simpa using h))]
      simp only
      rw [bind_nm (fun d h => h5 d (by simpa using h))]
      simp only [run_f, s_st, s_nil', k_nx, k_rt, k_bk, k_ct, m_asg, m_asgO, m_asgT, m_par, m_set, m_app, m_expr, m_ite, m_for, m_ret, m_sput, m_sfill, v_var, v_bor, v_int, v_bl, v_str, v_non, v_sget, v_not, v_and, v_or, v_ife, v_tup, v_lst, v_dnew, v_call, v_bi, v_comp, o_nil', o_bor, e_nil, e_star, t_nil', t_ex, c_turn, asB, asI, isSrc, outR, bindT, bindTs, putsE, fr, szLine, List.length_cons, List.length_nil, List.map_cons, List.map_nil, List.cons_append, List.nil_append, List.append_nil, List.getElem?_cons_zero, List.getElem?_cons_succ, List.set_cons_zero, List.set_cons_succ, List.replicate_zero, List.replicate_succ, List.getD_cons_zero, Nat.reduceSub, Nat.reduceAdd, Option.bind_some, Option.bind_none, Option.map_some, if_true, if_false, Bool.and_true, Bool.true_and, Bool.not_true, Bool.not_false, Bool.or_true, Bool.true_or, Bool.false_or, Bool.or_false, Bool.and_false, Bool.false_and, Bool.and_self, Bool.or_self, Bool.false_eq_true, startE, reduceCtorEq, List.contains_nil, List.contains_cons, Nat.reduceBEq, ite_self, Nat.reduceLeDiff, Nat.reduceEqDiff, Int.reduceLE, Int.reduceLT, Int.reduceNeg, Int.reduceAdd, Int.reduceSub, ↓reduceIte, decide_true, decide_false, true_or, or_true, or_false, false_or, or_self, not_true_eq_false, not_false_eq_true, if_true, itemsL_, itemsT_, o_var_, e_var_, o_mv_, e_mv_, o_rel_, e_rel_, o_int_, e_int_, o_bl_, e_bl_, o_str_, e_str_, o_non_, e_non_, o_not_, e_not_, o_and_, e_and_, o_or_, e_or_, o_ife_, e_ife_, o_tup_, e_tup_, o_lst_, e_lst_, o_dnew_, e_dnew_, o_call_, e_call_, o_bi_, e_bi_, o_pop_, e_pop_, o_popAt_, e_popAt_, o_sget_, e_sget_, o_comp_, e_comp_, e_bor_, b_add_, b_addT_, b_addL_, b_sub_, b_mod_, b_fdiv_, b_cmp_, b_neg_, b_idxL_, b_idxT_, b_idxD_, b_slcTt_, b_slcTf_, b_slcLt_, b_slcLf_, b_revL_, b_lenL_, b_lenT_, b_abs_, b_toint_, b_totupL_, b_totupT_, b_tolstL_, b_tolstT_, b_repr_, b_lr1_, b_lr2_, b_lr3_, b_clt_, b_cle_, b_cgt_, b_cge_, b_ceq_, b_cne_, b_cin_, b_cni_, b_badbin_, b_badcmp_, b_wseqL_, b_wseqT_, b_wr1_, b_wr2_, b_wr3_, b_wenL_, b_wenT_, bad_neg_, bad_idx_, bad_rev_, bad_cnt_, bad_len_, bad_sum_, bad_max1_, bad_min1_, bad_max2_, bad_min2_, bad_abs_, bad_toint_, bad_totup_, bad_tolst_, bad_sorted_, bad_repr_, bad_mint_, bad_any_, bad_all_, bad_lrange1_, bad_lrange2_, bad_lrange3_, bad_slc_, bad_dict_, bad_ixL_, bad_ixT_, p20, p21, p10, p30, p31, p32, rd0_, rv0_, ro0_, rl0_, rd1_, rv1_, ro1_, rl1_, rd2_, rv2_, ro2_, rl2_, rd3_, rv3_, ro3_, rl3_, rd4_, rv4_, ro4_, rl4_, rd5_, rv5_, ro5_, rl5_, rd6_, rv6_, ro6_, rl6_, rd7_, rv7_, ro7_, rl7_, rd8_, rv8_, ro8_, rl8_, rd9_, rv9_, ro9_, rl9_, rd10_, rv10_, ro10_, rl10_, rd11_, rv11_, ro11_, rl11_, rd12_, rv12_, ro12_, rl12_, rd13_, rv13_, ro13_, rl13_, rd14_, rv14_, ro14_, rl14_, rd15_, rv15_, ro15_, rl15_, rd16_, rv16_, ro16_, rl16_, rd17_, rv17_, ro17_, rl17_]
    have step : forB cf ff F (.tp [.nm 8, .nm 5]) [.for (.nm 9) .seq [.bi .rev [.bi (.slc false true) [.bor 2, .non, .var 8]]] bIn] (.tup [.int (k : Int), .int b]) (EO R x1 x4 x6 sh A y5 y8 y9) s = some (.nx (EI R x1 x4 x6 (some (false, .int k)) b sh A1 z9 none) s1) := by
      unfold forB
      rw [hbind]
      have hrev : ((R.take k).map D.int).reverse = (R.take k).reverse.map .int := (List.map_reverse).symm
      simp only [run_f, s_st, s_nil', k_nx, k_rt, k_bk, k_ct, m_asg, m_asgO, m_asgT, m_par, m_set, m_app, m_expr, m_ite, m_for, m_ret, m_sput, m_sfill, v_var, v_bor, v_int, v_bl, v_str, v_non, v_sget, v_not, v_and, v_or, v_ife, v_tup, v_lst, v_dnew, v_call, v_bi, v_comp, o_nil', o_bor, e_nil, e_star, t_nil', t_ex, c_turn, asB, asI, isSrc, outR, bindT, bindTs, putsE, fr, szLine, List.length_cons, List.length_nil, List.map_cons, List.map_nil, List.cons_append, List.nil_append, List.append_nil, List.getElem?_cons_zero, List.getElem?_cons_succ, List.set_cons_zero, List.set_cons_succ, List.replicate_zero, List.replicate_succ, List.getD_cons_zero, Nat.reduceSub, Nat.reduceAdd, Option.bind_some, Option.bind_none, Option.map_some, if_true, if_false, Bool.and_true, Bool.true_and, Bool.not_true, Bool.not_false, Bool.or_true, Bool.true_or, Bool.false_or, Bool.or_false, Bool.and_false, Bool.false_and, Bool.and_self, Bool.or_self, Bool.false_eq_true, startE, reduceCtorEq, List.contains_nil, List.contains_cons, Nat.reduceBEq, ite_self, Nat.reduceLeDiff, Nat.reduceEqDiff, Int.reduceLE, Int.reduceLT, Int.reduceNeg, Int.reduceAdd, Int.reduceSub, ↓reduceIte, decide_true, decide_false, true_or, or_true, or_false, false_or, or_self, not_true_eq_false, not_false_eq_true, if_true, itemsL_, itemsT_, o_var_, e_var_, o_mv_, e_mv_, o_rel_, e_rel_, o_int_, e_int_, o_bl_, e_bl_, o_str_, e_str_, o_non_, e_non_, o_not_, e_not_, o_and_, e_and_, o_or_, e_or_, o_ife_, e_ife_, o_tup_, e_tup_, o_lst_, e_lst_, o_dnew_, e_dnew_, o_call_, e_call_, o_bi_, e_bi_, o_pop_, e_pop_, o_popAt_, e_popAt_, o_sget_, e_sget_, o_comp_, e_comp_, e_bor_, b_add_, b_addT_, b_addL_, b_sub_, b_mod_, b_fdiv_, b_cmp_, b_neg_, b_idxL_, b_idxT_, b_idxD_, b_slcTt_, b_slcTf_, b_slcLt_, b_slcLf_, b_revL_, b_lenL_, b_lenT_, b_abs_, b_toint_, b_totupL_, b_totupT_, b_tolstL_, b_tolstT_, b_repr_, b_lr1_, b_lr2_, b_lr3_, b_clt_, b_cle_, b_cgt_, b_cge_, b_ceq_, b_cne_, b_cin_, b_cni_, b_badbin_, b_badcmp_, b_wseqL_, b_wseqT_, b_wr1_, b_wr2_, b_wr3_, b_wenL_, b_wenT_, bad_neg_, bad_idx_, bad_rev_, bad_cnt_, bad_len_, bad_sum_, bad_max1_, bad_min1_, bad_max2_, bad_min2_, bad_abs_, bad_toint_, bad_totup_, bad_tolst_, bad_sorted_, bad_repr_, bad_mint_, bad_any_, bad_all_, bad_lrange1_, bad_lrange2_, bad_lrange3_, bad_slc_, bad_dict_, bad_ixL_, bad_ixT_, p20, p21, p10, p30, p31, p32, rd0_, rv0_, ro0_, rl0_, rd1_, rv1_, ro1_, rl1_, rd2_, rv2_, ro2_, rl2_, rd3_, rv3_, ro3_, rl3_, rd4_, rv4_, ro4_, rl4_, rd5_, rv5_, ro5_, rl5_, rd6_, rv6_, ro6_, rl6_, rd7_, rv7_, ro7_, rl7_, rd8_, rv8_, ro8_, rl8_, rd9_, rv9_, ro9_, rl9_, rd10_, rv10_, ro10_, rl10_, rd11_, rv11_, ro11_, rl11_, rd12_, rv12_, ro12_, rl12_, rd13_, rv13_, ro13_, rl13_, rd14_, rv14_, ro14_, rl14_, rd15_, rv15_, ro15_, rl15_, rd16_, rv16_, ro16_, rl16_, rd17_, rv17_, ro17_, rl17_, slc_to hkl, hrev, e1]
    obtain ⟨A', z5', z8', z9', s', e2, hA', fz2, q5, q8, q9⟩ := outer_for hp nd hR ff ks A1 (some (false, .int b)) (some (false, .int k)) z9 s1 (fun p h => hk p (List.mem_cons_of_mem _ h)) hA1 (fun d h => by cases h) (fun d h => by cases h) hz9
    exact ⟨A', z5', z8', z9', s', (f_step step).trans e2, hA', fz2.trans fz1, q5, q8, q9⟩
/-- the pairs -/
abbrev EP_ (A : Int → List Int) (P : List (Int × Int)) (y5 y8 y9 : Option (Bool × D)) : Env := [some (false, .src), x1, some (false, .lst (R.map .int)), some (true, dicA R A), some (false, .lst (P.map pr)), y5, x6, some (false, .int sh), y8, y9, none, none]
theorem pair_turns (A : Int → List Int) (P : List (Int × Int)) (y8 : Option (Bool × D)) (b : Int) : ∀ (xs : List Int) (acc : List D) (y9 : Option (Bool × D)) (s : Sr), ∃ y', turns (cTurn cf [9] (.nm 9) [] (.tup [.var 9, .var 5])) (xs.map .int) acc (EP_ R x1 x6 sh A P (some (false, .int b)) y8 y9) s = some (acc.reverse ++ (xs.map fun a => (a, b)).map pr, EP_ R x1 x6 sh A P (some (false, .int b)) y8 y', s)
  | [], acc, y9, s => ⟨y9, by simp only [List.map_nil, List.append_nil]; rfl⟩
  | x :: xs, acc, y9, s => by
    have hc : cTurn cf [9] (.nm 9) [] (.tup [.var 9, .var 5]) (.int x) (EP_ R x1 x6 sh A P (some (false, .int b)) y8 y9) s = some (some (pr (x, b)), EP_ R x1 x6 sh A P (some (false, .int b)) y8 (some (false, .int x)), s) := by
      rw [c_turn]
      show (bindT (.nm 9) (.int x) (EP_ R x1 x6 sh A P (some (false, .int b)) y8 none)).bind _ = _
      rw [bind_nm (fun d h => by cases h)]
      simp only [run_f, s_st, s_nil', k_nx, k_rt, k_bk, k_ct, m_asg, m_asgO, m_asgT, m_par, m_set, m_app, m_expr, m_ite, m_for, m_ret, m_sput, m_sfill, v_var, v_bor, v_int, v_bl, v_str, v_non, v_sget, v_not, v_and, v_or, v_ife, v_tup, v_lst, v_dnew, v_call, v_bi, v_comp, o_nil', o_bor, e_nil, e_star, t_nil', t_ex, c_turn, asB, asI, isSrc, outR, bindT, bindTs, putsE, fr, szLine, List.length_cons, List.length_nil, List.map_cons, List.map_nil, List.cons_append, List.nil_append, List.append_nil, List.getElem?_cons_zero, List.getElem?_cons_succ, List.set_cons_zero, List.set_cons_succ, List.replicate_zero, List.replicate_succ, List.getD_cons_zero, Nat.reduceSub, Nat.reduceAdd, Option.bind_some, Option.bind_none, Option.map_some, if_true, if_false, Bool.and_true, Bool.true_and, Bool.not_true, Bool.not_false, Bool.or_true, Bool.true_or, Bool.false_or, Bool.or_false, Bool.and_false, Bool.false_and, Bool.and_self, Bool.or_self, Bool.false_eq_true, startE, reduceCtorEq, List.contains_nil, List.contains_cons, Nat.reduceBEq, ite_self, Nat.reduceLeDiff, Nat.reduceEqDiff, Int.reduceLE, Int.reduceLT, Int.reduceNeg, Int.reduceAdd, Int.reduceSub, ↓reduceIte, decide_true, decide_false, true_or, or_true, or_false, false_or, or_self, not_true_eq_false, not_false_eq_true, if_true, itemsL_, itemsT_, o_var_, e_var_, o_mv_, e_mv_, o_rel_, e_rel_, o_int_, e_int_, o_bl_, e_bl_, o_str_, e_str_, o_non_, e_non_, o_not_, e_not_, o_and_, e_and_, o_or_, e_or_, o_ife_, e_ife_, o_tup_, e_tup_, o_lst_, e_lst_, o_dnew_, e_dnew_, o_call_, e_call_, o_bi_, e_bi_, o_pop_, e_pop_, o_popAt_, e_popAt_, o_sget_, e_sget_, o_comp_, e_comp_, e_bor_, b_add_, b_addT_, b_addL_, b_sub_, b_mod_, b_fdiv_, b_cmp_, b_neg_, b_idxL_, b_idxT_, b_idxD_, b_slcTt_, b_slcTf_, b_slcLt_, b_slcLf_, b_revL_, b_lenL_, b_lenT_, b_abs_, b_toint_, b_totupL_, b_totupT_, b_tolstL_, b_tolstT_, b_repr_, b_lr1_, b_lr2_, b_lr3_, b_clt_, b_cle_, b_cgt_, b_cge_, b_ceq_, b_cne_, b_cin_, b_cni_, b_badbin_, b_badcmp_, b_wseqL_, b_wseqT_, b_wr1_, b_wr2_, b_wr3_, b_wenL_, b_wenT_, bad_neg_, bad_idx_, bad_rev_, bad_cnt_, bad_len_, bad_sum_, bad_max1_, bad_min1_, bad_max2_, bad_min2_, bad_abs_, bad_toint_, bad_totup_, bad_tolst_, bad_sorted_, bad_repr_, bad_mint_, bad_any_, bad_all_, bad_lrange1_, bad_lrange2_, bad_lrange3_, bad_slc_, bad_dict_, bad_ixL_, bad_ixT_, p20, p21, p10, p30, p31, p32, rd0_, rv0_, ro0_, rl0_, rd1_, rv1_, ro1_, rl1_, rd2_, rv2_, ro2_, rl2_, rd3_, rv3_, ro3_, rl3_, rd4_, rv4_, ro4_, rl4_, rd5_, rv5_, ro5_, rl5_, rd6_, rv6_, ro6_, rl6_, rd7_, rv7_, ro7_, rl7_, rd8_, rv8_, ro8_, rl8_, rd9_, rv9_, ro9_, rl9_, rd10_, rv10_, ro10_, rl10_, rd11_, rv11_, ro11_, rl11_, rd12_, rv12_, ro12_, rl12_, rd13_, rv13_, ro13_, rl13_, rd14_, rv14_, ro14_, rl14_, rd15_, rv15_, ro15_, rl15_, rd16_, rv16_, ro16_, rl16_, rd17_, rv17_, ro17_, rl17_]
    obtain ⟨y', ih⟩ := pair_turns A P y8 b xs (pr (x, b) :: acc) (some (false, .int x)) s
    refine ⟨y', (tn_yes hc).trans (ih.trans ?_)⟩
    rw [List.reverse_cons, List.append_assoc]; rfl
theorem pair_for (A : Int → List Int) (hA : OkA R A) (hR : R.length ≤ 100) (ff : Bool) (y8 y9 : Option (Bool × D)) (h9 : nOw y9) : ∀ (bs : List Int) (P : List (Int × Int)) (y5 : Option (Bool × D)) (s : Sr), (∀ b ∈ bs, b ∈ R) → P.length + bs.length * 100 ≤ 20000 → nOw y5 →
    ∃ z5, forT (forB cf ff F (.nm 5) [.asg 4 (.bi (.bin .add) [.bor 4, .comp [9] (.nm 9) .seq [.bi .idx [.bor 3, .bor 5]] [] (.tup [.var 9, .var 5])])]) (bs.map .int) (EP_ R x1 x6 sh A P y5 y8 y9) s = some (.nx (EP_ R x1 x6 sh A (P ++ bs.flatMap fun b => (A b).map fun a => (a, b)) z5 y8 y9) s)
  | [], P, y5, s, _, _, _ => ⟨y5, by simp only [List.flatMap_nil, List.append_nil]; rfl⟩
  | b :: bs, P, y5, s, hb, hl, h5 => by
    have hbm := hb b List.mem_cons_self
    have l1 := hA.len hbm
    simp only [List.length_cons] at hl
    obtain ⟨y', ht⟩ := pair_turns cf R x1 x6 sh A P y8 b (A b) [] y9 s
    have hno : noOwn [9] (EP_ R x1 x6 sh A P (some (false, .int b)) y8 y9) = true := by
      simp only [noOwn, List.all_cons, List.all_nil, Bool.and_true]
      match y9, h9 with
      | none, _ => rfl
      | some (false, d), _ => rfl
      | some (true, d), h => exact absurd rfl (h d)
    have hbk : ∀ y, backE [9] (EP_ R x1 x6 sh A P (some (false, .int b)) y8 y9) (EP_ R x1 x6 sh A P (some (false, .int b)) y8 y) = EP_ R x1 x6 sh A P (some (false, .int b)) y8 y9 := fun y => rfl
    have l3 : (P.map pr).length + (([] : List D).reverse ++ ((A b).map fun a => (a, b)).map pr).length ≤ 16777216 := by
      simp only [List.length_append, List.length_map, List.reverse_nil, List.length_nil]; omega
    have hsum : P.map pr ++ (([] : List D).reverse ++ ((A b).map fun a => (a, b)).map pr) = (P ++ (A b).map fun a => (a, b)).map pr := by simp
    obtain ⟨z5, ih⟩ := pair_for A hA hR ff y8 y9 h9 bs (P ++ (A b).map fun a => (a, b)) (some (false, .int b)) s (fun x hx => hb x (List.mem_cons_of_mem _ hx)) (by rw [List.length_append, List.length_map]; omega) (fun d h => by cases h)
    refine ⟨z5, (f_step ?_).trans (ih.trans ?_)⟩
    · unfold forB
      rw [bind_nm (fun d h => h5 d (by simpa using h))]
      simp only [run_f, s_st, s_nil', k_nx, k_rt, k_bk, k_ct, m_asg, m_asgO, m_asgT, m_par, m_set, m_app, m_expr, m_ite, m_for, m_ret, m_sput, m_sfill, v_var, v_bor, v_int, v_bl, v_str, v_non, v_sget, v_not, v_and, v_or, v_ife, v_tup, v_lst, v_dnew, v_call, v_bi, v_comp, o_nil', o_bor, e_nil, e_star, t_nil', t_ex, c_turn, asB, asI, isSrc, outR, bindT, bindTs, putsE, fr, szLine, List.length_cons, List.length_nil, List.map_cons, List.map_nil, List.cons_append, List.nil_append, List.append_nil, List.getElem?_cons_zero, List.getElem?_cons_succ, List.set_cons_zero, List.set_cons_succ, List.replicate_zero, List.replicate_succ, List.getD_cons_zero, Nat.reduceSub, Nat.reduceAdd, Option.bind_some, Option.bind_none, Option.map_some, if_true, if_false, Bool.and_true, Bool.true_and, Bool.not_true, Bool.not_false, Bool.or_true, Bool.true_or, Bool.false_or, Bool.or_false, Bool.and_false, Bool.false_and, Bool.and_self, Bool.or_self, Bool.false_eq_true, startE, reduceCtorEq, List.contains_nil, List.contains_cons, Nat.reduceBEq, ite_self, Nat.reduceLeDiff, Nat.reduceEqDiff, Int.reduceLE, Int.reduceLT, Int.reduceNeg, Int.reduceAdd, Int.reduceSub, ↓reduceIte, decide_true, decide_false, true_or, or_true, or_false, false_or, or_self, not_true_eq_false, not_false_eq_true, if_true, itemsL_, itemsT_, o_var_, e_var_, o_mv_, e_mv_, o_rel_, e_rel_, o_int_, e_int_, o_bl_, e_bl_, o_str_, e_str_, o_non_, e_non_, o_not_, e_not_, o_and_, e_and_, o_or_, e_or_, o_ife_, e_ife_, o_tup_, e_tup_, o_lst_, e_lst_, o_dnew_, e_dnew_, o_call_, e_call_, o_bi_, e_bi_, o_pop_, e_pop_, o_popAt_, e_popAt_, o_sget_, e_sget_, o_comp_, e_comp_, e_bor_, b_add_, b_addT_, b_addL_, b_sub_, b_mod_, b_fdiv_, b_cmp_, b_neg_, b_idxL_, b_idxT_, b_idxD_, b_slcTt_, b_slcTf_, b_slcLt_, b_slcLf_, b_revL_, b_lenL_, b_lenT_, b_abs_, b_toint_, b_totupL_, b_totupT_, b_tolstL_, b_tolstT_, b_repr_, b_lr1_, b_lr2_, b_lr3_, b_clt_, b_cle_, b_cgt_, b_cge_, b_ceq_, b_cne_, b_cin_, b_cni_, b_badbin_, b_badcmp_, b_wseqL_, b_wseqT_, b_wr1_, b_wr2_, b_wr3_, b_wenL_, b_wenT_, bad_neg_, bad_idx_, bad_rev_, bad_cnt_, bad_len_, bad_sum_, bad_max1_, bad_min1_, bad_max2_, bad_min2_, bad_abs_, bad_toint_, bad_totup_, bad_tolst_, bad_sorted_, bad_repr_, bad_mint_, bad_any_, bad_all_, bad_lrange1_, bad_lrange2_, bad_lrange3_, bad_slc_, bad_dict_, bad_ixL_, bad_ixT_, p20, p21, p10, p30, p31, p32, rd0_, rv0_, ro0_, rl0_, rd1_, rv1_, ro1_, rl1_, rd2_, rv2_, ro2_, rl2_, rd3_, rv3_, ro3_, rl3_, rd4_, rv4_, ro4_, rl4_, rd5_, rv5_, ro5_, rl5_, rd6_, rv6_, ro6_, rl6_, rd7_, rv7_, ro7_, rl7_, rd8_, rv8_, ro8_, rl8_, rd9_, rv9_, ro9_, rl9_, rd10_, rv10_, ro10_, rl10_, rd11_, rv11_, ro11_, rl11_, rd12_, rv12_, ro12_, rl12_, rd13_, rv13_, ro13_, rl13_, rd14_, rv14_, ro14_, rl14_, rd15_, rv15_, ro15_, rl15_, rd16_, rv16_, ro16_, rl16_, rd17_, rv17_, ro17_, rl17_, keyOk_int, look_dic A b hbm, hno, ht, hbk, l3, hsum]
    · rw [List.flatMap_cons, List.append_assoc]
end
theorem sorted_pr (P : List (Int × Int)) : biD .sorted [.lst (P.map pr)] = some (.lst (sortD (P.map pr))) := by
  have h1 : (P.map pr).all (fun x => (P.map pr).all fun y => alk x y) = true := by
    simp only [List.all_eq_true, List.mem_map]
    rintro x ⟨p, _, rfl⟩ y ⟨q, _, rfl⟩
    rfl
  have h3 := shp_pr P
  show (if _ then _ else _) = _
  rw [if_pos]
  rw [h1, h3]
  simp only [Bool.and_self, Bool.true_and, Bool.or_eq_true]
  refine .inr (List.all_eq_true.mpr fun x hx => ?_)
  obtain ⟨p, _, rfl⟩ := List.mem_map.mp hx
  rfl
/-- the orders drawn -/
structure OrdOk (n : Int) (ps : List (Int × Int)) (R : List Int) : Prop where
  len : n = R.length
  pos : 0 < R.length
  small : R.length ≤ 100
  nd : R.Nodup
  mem : ∀ w, w ∈ R ↔ 0 ≤ w ∧ w < n
  ext : ∀ a b, (a, b) ∈ ps → ∃ i j : Nat, i < j ∧ R[i]? = some a ∧ R[j]? = some b
  few : ps.length ≤ 10000
theorem ahead0 (R : List Int) (nd : R.Nodup) : ∀ (xs : List Int), (∀ x ∈ xs, x ∉ R) → xs.Nodup → (xs.map fun w => (D.int w, D.lst [])).foldl (fun kvs (p : D × D) => put p.1 p.2 kvs) (R.map fun w => (D.int w, D.lst [])) = (R ++ xs).map fun w => (D.int w, D.lst [])
  | [], _, _ => by simp
  | x :: xs, h, nx => by
    rw [List.nodup_cons] at nx
    have hx := h x List.mem_cons_self
    have hput : ∀ L : List Int, x ∉ L → put (.int x) (.lst []) (L.map fun w => (D.int w, D.lst [])) = (L ++ [x]).map fun w => (D.int w, D.lst []) := by
      intro L
      induction L with
      | nil => intro _; rfl
      | cons y L ih =>
        intro hL
        have hne : y ≠ x := fun e => hL (by simp [e])
        simp only [List.map_cons, put, same_int, decide_eq_false hne, Bool.false_eq_true, if_false, List.cons_append]
        rw [ih (fun z => hL (List.mem_cons_of_mem _ z))]
    rw [List.map_cons, List.foldl_cons, hput R hx, ahead0 (R ++ [x]) (by
      rw [List.nodup_append]
      exact ⟨nd, by simp, fun a ha b hb e => by rw [List.mem_singleton] at hb; rw [e, hb] at ha; exact hx ha⟩) xs (fun y hy hm => by
        rcases List.mem_append.mp hm with hm | hm
        · exact h y (List.mem_cons_of_mem _ hy) hm
        · rw [List.mem_singleton] at hm; rw [hm] at hy; exact nx.1 hy) nx.2]
    simp
theorem dict0 (R : List Int) (nd : R.Nodup) : biD (.dict false) [.lst (R.map fun w => .tup [.int w, .lst []])] = some (dicA R fun _ => []) := by
  have h1 : ∀ L : List Int, pairsOf (L.map fun w => D.tup [.int w, .lst []]) = some (L.map fun w => (D.int w, D.lst [])) := by
    intro L
    induction L with
    | nil => rfl
    | cons x L ih => rw [List.map_cons]; show (pairsOf _).map _ = _; rw [ih]; rfl
  have h2 : ((R.map fun w => (D.int w, D.lst [])).all fun p => keyOk false p.1) = true := by
    simp only [List.all_eq_true, List.mem_map]
    rintro x ⟨p, _, rfl⟩
    rfl
  show (pairsOf _).bind _ = _
  rw [h1, Option.bind_some, if_pos h2]
  have := ahead0 [] List.nodup_nil R (fun x _ h => by simp at h) nd
  rw [List.map_nil, List.nil_append] at this
  rw [this]
  rfl
theorem key_turns (x1 x6 x7 : Option (Bool × D)) (rowd : D) : ∀ (xs : List Int) (acc : List D) (y : Option (Bool × D)) (s : Sr), ∃ y', turns (cTurn cf [10] (.nm 10) [] (.tup [.var 10, .lst []])) (xs.map .int) acc [some (false, .src), x1, some (false, rowd), none, none, none, x6, x7, none, none, y, none] s = some (acc.reverse ++ xs.map fun w => .tup [.int w, .lst []], [some (false, .src), x1, some (false, rowd), none, none, none, x6, x7, none, none, y', none], s)
  | [], acc, y, s => ⟨y, by simp only [List.map_nil, List.append_nil]; rfl⟩
  | x :: xs, acc, y, s => by
    have hc : cTurn cf [10] (.nm 10) [] (.tup [.var 10, .lst []]) (.int x) [some (false, .src), x1, some (false, rowd), none, none, none, x6, x7, none, none, y, none] s = some (some (.tup [.int x, .lst []]), [some (false, .src), x1, some (false, rowd), none, none, none, x6, x7, none, none, some (false, .int x), none], s) := by
      rw [c_turn]
      show (bindT (.nm 10) (.int x) [some (false, .src), x1, some (false, rowd), none, none, none, x6, x7, none, none, none, none]).bind _ = _
      rw [bind_nm (fun d h => by cases h)]
      simp only [run_f, s_st, s_nil', k_nx, k_rt, k_bk, k_ct, m_asg, m_asgO, m_asgT, m_par, m_set, m_app, m_expr, m_ite, m_for, m_ret, m_sput, m_sfill, v_var, v_bor, v_int, v_bl, v_str, v_non, v_sget, v_not, v_and, v_or, v_ife, v_tup, v_lst, v_dnew, v_call, v_bi, v_comp, o_nil', o_bor, e_nil, e_star, t_nil', t_ex, c_turn, asB, asI, isSrc, outR, bindT, bindTs, putsE, fr, szLine, List.length_cons, List.length_nil, List.map_cons, List.map_nil, List.cons_append, List.nil_append, List.append_nil, List.getElem?_cons_zero, List.getElem?_cons_succ, List.set_cons_zero, List.set_cons_succ, List.replicate_zero, List.replicate_succ, List.getD_cons_zero, Nat.reduceSub, Nat.reduceAdd, Option.bind_some, Option.bind_none, Option.map_some, if_true, if_false, Bool.and_true, Bool.true_and, Bool.not_true, Bool.not_false, Bool.or_true, Bool.true_or, Bool.false_or, Bool.or_false, Bool.and_false, Bool.false_and, Bool.and_self, Bool.or_self, Bool.false_eq_true, startE, reduceCtorEq, List.contains_nil, List.contains_cons, Nat.reduceBEq, ite_self, Nat.reduceLeDiff, Nat.reduceEqDiff, Int.reduceLE, Int.reduceLT, Int.reduceNeg, Int.reduceAdd, Int.reduceSub, ↓reduceIte, decide_true, decide_false, true_or, or_true, or_false, false_or, or_self, not_true_eq_false, not_false_eq_true, if_true, itemsL_, itemsT_, o_var_, e_var_, o_mv_, e_mv_, o_rel_, e_rel_, o_int_, e_int_, o_bl_, e_bl_, o_str_, e_str_, o_non_, e_non_, o_not_, e_not_, o_and_, e_and_, o_or_, e_or_, o_ife_, e_ife_, o_tup_, e_tup_, o_lst_, e_lst_, o_dnew_, e_dnew_, o_call_, e_call_, o_bi_, e_bi_, o_pop_, e_pop_, o_popAt_, e_popAt_, o_sget_, e_sget_, o_comp_, e_comp_, e_bor_, b_add_, b_addT_, b_addL_, b_sub_, b_mod_, b_fdiv_, b_cmp_, b_neg_, b_idxL_, b_idxT_, b_idxD_, b_slcTt_, b_slcTf_, b_slcLt_, b_slcLf_, b_revL_, b_lenL_, b_lenT_, b_abs_, b_toint_, b_totupL_, b_totupT_, b_tolstL_, b_tolstT_, b_repr_, b_lr1_, b_lr2_, b_lr3_, b_clt_, b_cle_, b_cgt_, b_cge_, b_ceq_, b_cne_, b_cin_, b_cni_, b_badbin_, b_badcmp_, b_wseqL_, b_wseqT_, b_wr1_, b_wr2_, b_wr3_, b_wenL_, b_wenT_, bad_neg_, bad_idx_, bad_rev_, bad_cnt_, bad_len_, bad_sum_, bad_max1_, bad_min1_, bad_max2_, bad_min2_, bad_abs_, bad_toint_, bad_totup_, bad_tolst_, bad_sorted_, bad_repr_, bad_mint_, bad_any_, bad_all_, bad_lrange1_, bad_lrange2_, bad_lrange3_, bad_slc_, bad_dict_, bad_ixL_, bad_ixT_, p20, p21, p10, p30, p31, p32, rd0_, rv0_, ro0_, rl0_, rd1_, rv1_, ro1_, rl1_, rd2_, rv2_, ro2_, rl2_, rd3_, rv3_, ro3_, rl3_, rd4_, rv4_, ro4_, rl4_, rd5_, rv5_, ro5_, rl5_, rd6_, rv6_, ro6_, rl6_, rd7_, rv7_, ro7_, rl7_, rd8_, rv8_, ro8_, rl8_, rd9_, rv9_, ro9_, rl9_, rd10_, rv10_, ro10_, rl10_, rd11_, rv11_, ro11_, rl11_, rd12_, rv12_, ro12_, rl12_, rd13_, rv13_, ro13_, rl13_, rd14_, rv14_, ro14_, rl14_, rd15_, rv15_, ro15_, rl15_, rd16_, rv16_, ro16_, rl16_, rd17_, rv17_, ro17_, rl17_]
    obtain ⟨y', ih⟩ := key_turns x1 x6 x7 rowd xs (.tup [.int x, .lst []] :: acc) (some (false, .int x)) s
    refine ⟨y', (tn_yes hc).trans (ih.trans ?_)⟩
    rw [List.reverse_cons, List.append_assoc]; rfl
theorem enum_list (R : List Int) : List.zipWith (fun (i : Nat) (x : D) => D.tup [.int (i : Int), x]) (List.range (R.map D.int).length) (R.map D.int) = ((List.range R.length).zip R).map fun p => .tup [.int (p.1 : Int), .int p.2] := by
  apply List.ext_getElem?
  intro i
  simp only [List.getElem?_zipWith, List.getElem?_map, List.length_map, List.getElem?_zip_eq_some, List.zip]
  cases (List.range R.length)[i]? <;> cases R[i]? <;> rfl
theorem enum_mem (R : List Int) : ∀ p ∈ (List.range R.length).zip R, R[p.1]? = some p.2 := by
  intro p hp
  obtain ⟨i, hi⟩ := List.getElem?_of_mem hp
  rw [List.zip, List.getElem?_zipWith] at hi
  cases h1 : (List.range R.length)[i]? with
  | none => rw [h1] at hi; cases h2 : R[i]? <;> rw [h2] at hi <;> cases hi
  | some j =>
    cases h2 : R[i]? with
    | none => rw [h1, h2] at hi; cases hi
    | some b =>
      rw [h1, h2] at hi
      cases hi
      obtain ⟨l, e⟩ := List.getElem?_eq_some_iff.mp h1
      rw [List.getElem_range] at e
      show R[j]? = some b
      rw [← e]; exact h2
def MixOk : Prop := ∀ (l : D) (xs : List D) (s : Sr), D.items l = some xs → xs.length ≤ 1000 → ∃ zs s', cf 14 [.src, l] s = some (.lst zs, s') ∧ zs.Perm xs ∧ s'.fz = s.fz
theorem order_run (hp : PickOk cf) (hm : MixOk cf) (most : Int) (h1 : 1 ≤ most) (h2 : most ≤ 100) (s : Sr) :
    ∃ n ps R s', runF cf F d__law_order [.src, .int most] s = some (.tup [ordD n ps, rowD R], s') ∧ OrdOk n ps R ∧ (R.length : Int) ≤ most ∧ s'.fz = s.fz := by
  obtain ⟨v1, s1, e1, f1, a1, b1⟩ := hp most s (by omega)
  obtain ⟨v2, s2, e2, f2, a2, b2⟩ := hp 5 s1 (by decide)
  obtain ⟨m, hm1⟩ : ∃ m : Nat, 1 + v1 = (m : Int) := ⟨(1 + v1).toNat, by omega⟩
  have hm0 : 0 < m ∧ m ≤ 100 := by omega
  obtain ⟨zs, s3, e3, pm, f3⟩ := hm (.lst (natsD (List.range m))) _ s2 rfl (by rw [List.length_map, List.length_range]; omega)
  have hnat : natsD (List.range m) = ((List.range m).map fun (i : Nat) => (i : Int)).map .int := by rw [List.map_map]; rfl
  rw [hnat] at pm
  obtain ⟨R, rfl, pR⟩ := perm_ints pm
  have hlen : R.length = m := by rw [pR.length_eq, List.length_map, List.length_range]
  have ndW : ((List.range m).map fun (i : Nat) => (i : Int)).Nodup := by
    rw [List.nodup_iff_pairwise_ne, List.pairwise_map]
    exact (List.nodup_iff_pairwise_ne.mp List.nodup_range).imp fun h e => h (by omega)
  have nd : R.Nodup := (pR.nodup_iff).mpr ndW
  have hmem : ∀ w, w ∈ R ↔ 0 ≤ w ∧ w < (m : Int) := fun w => by
    rw [pR.mem_iff, List.mem_map]
    constructor
    · rintro ⟨i, hi, rfl⟩
      rw [List.mem_range] at hi
      omega
    · rintro ⟨h1, h2⟩
      exact ⟨w.toNat, by rw [List.mem_range]; omega, by omega⟩
  obtain ⟨y10, t1⟩ := key_turns cf (some (false, .int most)) (some (false, .int m)) (some (false, .int v2)) (.lst (R.map .int)) R [] none s3
  have ok0 : OkA R fun _ => [] := fun j w _ => ⟨fun x h => (by cases h), List.nodup_nil⟩
  have nN : nOw none := fun d h => by cases h
  obtain ⟨A, z5, z8, z9, s4, e4, okA, f4, n5, n8, n9⟩ := outer_for cf F R (some (false, .int most)) none (some (false, .int m)) v2 hp nd (by omega) false ((List.range R.length).zip R) (fun _ => []) none none none s3 (enum_mem R) ok0 nN nN nN
  obtain ⟨z5', e5⟩ := pair_for cf F R (some (false, .int most)) (some (false, .int m)) v2 A okA (by omega) false z8 z9 n9 R [] z5 s4 (fun b h => h) (by simp only [List.length_nil]; omega) n5
  obtain ⟨ps, e6, pp⟩ := perm_prs (sortD_perm (((R.flatMap fun b => (A b).map fun a => (a, b))).map pr))
  refine ⟨m, ps, R, s4, ?_, ⟨hlen.symm ▸ rfl, by omega, by omega, nd, hmem, fun a b hab => ?_, ?_⟩, by omega, by rw [f4, f3, f2, f1]⟩
  · have hno : ∀ a b c d e : Option (Bool × D), noOwn [10] [some (false, .src), a, b, none, none, none, c, d, none, none, none, e] = true := fun a b c d e => rfl
    have hbk : ∀ y, backE [10] [some (false, .src), some (false, .int most), some (false, .lst (R.map .int)), none, none, none, some (false, .int m), some (false, .int v2), none, none, none, none] [some (false, .src), some (false, .int most), some (false, .lst (R.map .int)), none, none, none, some (false, .int m), some (false, .int v2), none, none, y, none] = [some (false, .src), some (false, .int most), some (false, .lst (R.map .int)), none, none, none, some (false, .int m), some (false, .int v2), none, none, none, none] := fun y => rfl
    simp only [List.reverse_nil, List.nil_append] at t1
    simp only [EP_, List.nil_append, List.map_nil] at e5
    simp only [run_f, s_st, s_nil', k_nx, k_rt, k_bk, k_ct, m_asg, m_asgO, m_asgT, m_par, m_set, m_app, m_expr, m_ite, m_for, m_ret, m_sput, m_sfill, v_var, v_bor, v_int, v_bl, v_str, v_non, v_sget, v_not, v_and, v_or, v_ife, v_tup, v_lst, v_dnew, v_call, v_bi, v_comp, o_nil', o_bor, e_nil, e_star, t_nil', t_ex, c_turn, asB, asI, isSrc, outR, bindT, bindTs, putsE, fr, szLine, List.length_cons, List.length_nil, List.map_cons, List.map_nil, List.cons_append, List.nil_append, List.append_nil, List.getElem?_cons_zero, List.getElem?_cons_succ, List.set_cons_zero, List.set_cons_succ, List.replicate_zero, List.replicate_succ, List.getD_cons_zero, Nat.reduceSub, Nat.reduceAdd, Option.bind_some, Option.bind_none, Option.map_some, if_true, if_false, Bool.and_true, Bool.true_and, Bool.not_true, Bool.not_false, Bool.or_true, Bool.true_or, Bool.false_or, Bool.or_false, Bool.and_false, Bool.false_and, Bool.and_self, Bool.or_self, Bool.false_eq_true, startE, reduceCtorEq, List.contains_nil, List.contains_cons, Nat.reduceBEq, ite_self, Nat.reduceLeDiff, Nat.reduceEqDiff, Int.reduceLE, Int.reduceLT, Int.reduceNeg, Int.reduceAdd, Int.reduceSub, ↓reduceIte, decide_true, decide_false, true_or, or_true, or_false, false_or, or_self, not_true_eq_false, not_false_eq_true, if_true, itemsL_, itemsT_, o_var_, e_var_, o_mv_, e_mv_, o_rel_, e_rel_, o_int_, e_int_, o_bl_, e_bl_, o_str_, e_str_, o_non_, e_non_, o_not_, e_not_, o_and_, e_and_, o_or_, e_or_, o_ife_, e_ife_, o_tup_, e_tup_, o_lst_, e_lst_, o_dnew_, e_dnew_, o_call_, e_call_, o_bi_, e_bi_, o_pop_, e_pop_, o_popAt_, e_popAt_, o_sget_, e_sget_, o_comp_, e_comp_, e_bor_, b_add_, b_addT_, b_addL_, b_sub_, b_mod_, b_fdiv_, b_cmp_, b_neg_, b_idxL_, b_idxT_, b_idxD_, b_slcTt_, b_slcTf_, b_slcLt_, b_slcLf_, b_revL_, b_lenL_, b_lenT_, b_abs_, b_toint_, b_totupL_, b_totupT_, b_tolstL_, b_tolstT_, b_repr_, b_lr1_, b_lr2_, b_lr3_, b_clt_, b_cle_, b_cgt_, b_cge_, b_ceq_, b_cne_, b_cin_, b_cni_, b_badbin_, b_badcmp_, b_wseqL_, b_wseqT_, b_wr1_, b_wr2_, b_wr3_, b_wenL_, b_wenT_, bad_neg_, bad_idx_, bad_rev_, bad_cnt_, bad_len_, bad_sum_, bad_max1_, bad_min1_, bad_max2_, bad_min2_, bad_abs_, bad_toint_, bad_totup_, bad_tolst_, bad_sorted_, bad_repr_, bad_mint_, bad_any_, bad_all_, bad_lrange1_, bad_lrange2_, bad_lrange3_, bad_slc_, bad_dict_, bad_ixL_, bad_ixT_, p20, p21, p10, p30, p31, p32, rd0_, rv0_, ro0_, rl0_, rd1_, rv1_, ro1_, rl1_, rd2_, rv2_, ro2_, rl2_, rd3_, rv3_, ro3_, rl3_, rd4_, rv4_, ro4_, rl4_, rd5_, rv5_, ro5_, rl5_, rd6_, rv6_, ro6_, rl6_, rd7_, rv7_, ro7_, rl7_, rd8_, rv8_, ro8_, rl8_, rd9_, rv9_, ro9_, rl9_, rd10_, rv10_, ro10_, rl10_, rd11_, rv11_, ro11_, rl11_, rd12_, rv12_, ro12_, rl12_, rd13_, rv13_, ro13_, rl13_, rd14_, rv14_, ro14_, rl14_, rd15_, rv15_, ro15_, rl15_, rd16_, rv16_, ro16_, rl16_, rd17_, rv17_, ro17_, rl17_, d__law_order, b__law_order, e1, e2, hm1, range_up (show m ≤ 1000 by omega), e3, hno, t1, hbk, dict0 R nd, enum_list, e4, e5, sorted_pr, e6]
  · have h := pp.mem_iff.mp hab
    obtain ⟨b', hb', hx⟩ := List.mem_flatMap.mp h
    obtain ⟨a', ha', e⟩ := List.mem_map.mp hx
    cases e
    obtain ⟨j, hj⟩ := List.getElem?_of_mem hb'
    have h3 := (okA j b hj).1 a ha'
    obtain ⟨i, hi⟩ := List.getElem?_of_mem h3
    have hij : i < j := by
      have := (List.getElem?_eq_some_iff.mp hi).1
      rw [List.length_take] at this
      omega
    rw [List.getElem?_take, if_pos hij] at hi
    exact ⟨i, j, hij, hi, hj⟩
  · rw [pp.length_eq]
    have key : ∀ L : List Int, (∀ b ∈ L, b ∈ R) → (L.flatMap fun b => (A b).map fun a => (a, b)).length ≤ L.length * 100 := by
      intro L
      induction L with
      | nil => intro _; simp
      | cons b L ih =>
        intro h
        have l1 := okA.len (h b List.mem_cons_self)
        have := ih fun x hx => h x (List.mem_cons_of_mem _ hx)
        rw [List.flatMap_cons, List.length_append, List.length_map, List.length_cons]
        omega
    have := key R fun b h => h
    omega
/-! _law_is_list .. -/
theorem shp_prK (k : Nat) (ps : List (Int × Int)) : D.shpL (ps.map pr) (k + 1) = true := by
  induction ps with
  | nil => rfl
  | cons p r ih => simp only [List.map_cons, D.shpL, ih, Bool.and_true]; rfl
theorem eqD_nilP (Q : List (Int × Int)) : eqD (.lst (Q.map pr)) (.lst []) = some Q.isEmpty := by
  have h1 : D.shp (.lst (Q.map pr)) 60 = true := shp_prK 58 Q
  have h2 : D.shp (.lst []) 60 = true := rfl
  show (if (D.shp (.lst (Q.map pr)) 60 && D.shp (.lst []) 60) = true then some (D.eqv (.lst (Q.map pr)) (.lst [])) else none) = _
  rw [h1, h2]
  cases Q <;> rfl
theorem ints_map (r : List Int) : D.intsOf (r.map .int) = some r := by
  induction r with
  | nil => rfl
  | cons x r ih => simp only [List.map_cons, D.intsOf, ih, Option.map_some]
theorem ix_tup {r : List Int} {a : Int} (h : a ∈ r) : biD .ixof [.tup (r.map .int), .int a] = some (.int (r.idxOf a : Nat)) := by
  rw [b_ixof_, itemsT_, Option.bind_some, ints_map, Option.bind_some, if_pos h]
def wrongP (r : List Int) (p : Int × Int) : Bool := decide (r.idxOf p.2 < r.idxOf p.1)
def isL (ps : List (Int × Int)) (r : List Int) : Bool := (ps.filter (wrongP r)).isEmpty
theorem isl_turns (n : Int) (ps0 : List (Int × Int)) (r : List Int) : ∀ (ps : List (Int × Int)) (acc : List D) (y : Option (Bool × D)) (s : Sr), (∀ p ∈ ps, p.1 ∈ r ∧ p.2 ∈ r) → s.fz = true →
    ∃ y', turns (cTurn cf [2] (.nm 2) [.bi (.cmp .gt) [.bi .ixof [.var 1, .bi .idx [.bor 2, .int 0]], .bi .ixof [.var 1, .bi .idx [.bor 2, .int 1]]]] (.var 2)) (ps.map pr) acc [some (false, ordD n ps0), some (false, rowD r), y] s = some (acc.reverse ++ (ps.filter (wrongP r)).map pr, [some (false, ordD n ps0), some (false, rowD r), y'], s)
  | [], acc, y, s, _, _ => ⟨y, by simp only [List.map_nil, List.filter_nil, List.append_nil]; rfl⟩
  | p :: ps, acc, y, s, h, hf => by
    obtain ⟨h1, h2⟩ := h p List.mem_cons_self
    have hc : cTurn cf [2] (.nm 2) [.bi (.cmp .gt) [.bi .ixof [.var 1, .bi .idx [.bor 2, .int 0]], .bi .ixof [.var 1, .bi .idx [.bor 2, .int 1]]]] (.var 2) (pr p) [some (false, ordD n ps0), some (false, rowD r), y] s = some (if wrongP r p then some (pr p) else none, [some (false, ordD n ps0), some (false, rowD r), some (false, pr p)], s) := by
      rw [c_turn]
      show (bindT (.nm 2) (pr p) [some (false, ordD n ps0), some (false, rowD r), none]).bind _ = _
      rw [bind_nm (fun d h => by cases h)]
      have e : decide (((r.idxOf p.2 : Nat) : Int) < ((r.idxOf p.1 : Nat) : Int)) = wrongP r p := by unfold wrongP; rw [decide_eq_decide]; omega
      simp only [run_f, s_st, s_nil', k_nx, k_rt, k_bk, k_ct, m_asg, m_asgO, m_asgT, m_par, m_set, m_app, m_expr, m_ite, m_for, m_ret, m_sput, m_sfill, v_var, v_bor, v_int, v_bl, v_str, v_non, v_sget, v_not, v_and, v_or, v_ife, v_tup, v_lst, v_dnew, v_call, v_bi, v_comp, o_nil', o_bor, e_nil, e_star, t_nil', t_ex, c_turn, asB, asI, isSrc, outR, bindT, bindTs, putsE, fr, szLine, List.length_cons, List.length_nil, List.map_cons, List.map_nil, List.cons_append, List.nil_append, List.append_nil, List.getElem?_cons_zero, List.getElem?_cons_succ, List.set_cons_zero, List.set_cons_succ, List.replicate_zero, List.replicate_succ, List.getD_cons_zero, Nat.reduceSub, Nat.reduceAdd, Option.bind_some, Option.bind_none, Option.map_some, if_true, if_false, Bool.and_true, Bool.true_and, Bool.not_true, Bool.not_false, Bool.or_true, Bool.true_or, Bool.false_or, Bool.or_false, Bool.and_false, Bool.false_and, Bool.and_self, Bool.or_self, Bool.false_eq_true, startE, reduceCtorEq, List.contains_nil, List.contains_cons, Nat.reduceBEq, ite_self, Nat.reduceLeDiff, Nat.reduceEqDiff, Int.reduceLE, Int.reduceLT, Int.reduceNeg, Int.reduceAdd, Int.reduceSub, ↓reduceIte, decide_true, decide_false, true_or, or_true, or_false, false_or, or_self, not_true_eq_false, not_false_eq_true, if_true, itemsL_, itemsT_, o_var_, e_var_, o_mv_, e_mv_, o_rel_, e_rel_, o_int_, e_int_, o_bl_, e_bl_, o_str_, e_str_, o_non_, e_non_, o_not_, e_not_, o_and_, e_and_, o_or_, e_or_, o_ife_, e_ife_, o_tup_, e_tup_, o_lst_, e_lst_, o_dnew_, e_dnew_, o_call_, e_call_, o_bi_, e_bi_, o_pop_, e_pop_, o_popAt_, e_popAt_, o_sget_, e_sget_, o_comp_, e_comp_, e_bor_, b_add_, b_addT_, b_addL_, b_sub_, b_mod_, b_fdiv_, b_cmp_, b_neg_, b_idxL_, b_idxT_, b_idxD_, b_slcTt_, b_slcTf_, b_slcLt_, b_slcLf_, b_revL_, b_lenL_, b_lenT_, b_abs_, b_toint_, b_totupL_, b_totupT_, b_tolstL_, b_tolstT_, b_repr_, b_lr1_, b_lr2_, b_lr3_, b_clt_, b_cle_, b_cgt_, b_cge_, b_ceq_, b_cne_, b_cin_, b_cni_, b_badbin_, b_badcmp_, b_wseqL_, b_wseqT_, b_wr1_, b_wr2_, b_wr3_, b_wenL_, b_wenT_, bad_neg_, bad_idx_, bad_rev_, bad_cnt_, bad_len_, bad_sum_, bad_max1_, bad_min1_, bad_max2_, bad_min2_, bad_abs_, bad_toint_, bad_totup_, bad_tolst_, bad_sorted_, bad_repr_, bad_mint_, bad_any_, bad_all_, bad_lrange1_, bad_lrange2_, bad_lrange3_, bad_slc_, bad_dict_, bad_ixL_, bad_ixT_, p20, p21, p10, p30, p31, p32, rd0_, rv0_, ro0_, rl0_, rd1_, rv1_, ro1_, rl1_, rd2_, rv2_, ro2_, rl2_, rd3_, rv3_, ro3_, rl3_, rd4_, rv4_, ro4_, rl4_, rd5_, rv5_, ro5_, rl5_, rd6_, rv6_, ro6_, rl6_, rd7_, rv7_, ro7_, rl7_, rd8_, rv8_, ro8_, rl8_, rd9_, rv9_, ro9_, rl9_, rd10_, rv10_, ro10_, rl10_, rd11_, rv11_, ro11_, rl11_, rd12_, rv12_, ro12_, rl12_, rd13_, rv13_, ro13_, rl13_, rd14_, rv14_, ro14_, rl14_, rd15_, rv15_, ro15_, rl15_, rd16_, rv16_, ro16_, rl16_, rd17_, rv17_, ro17_, rl17_, hf, ix_tup h1, ix_tup h2, e]
      cases wrongP r p <;> simp only [run_f, s_st, s_nil', k_nx, k_rt, k_bk, k_ct, m_asg, m_asgO, m_asgT, m_par, m_set, m_app, m_expr, m_ite, m_for, m_ret, m_sput, m_sfill, v_var, v_bor, v_int, v_bl, v_str, v_non, v_sget, v_not, v_and, v_or, v_ife, v_tup, v_lst, v_dnew, v_call, v_bi, v_comp, o_nil', o_bor, e_nil, e_star, t_nil', t_ex, c_turn, asB, asI, isSrc, outR, bindT, bindTs, putsE, fr, szLine, List.length_cons, List.length_nil, List.map_cons, List.map_nil, List.cons_append, List.nil_append, List.append_nil, List.getElem?_cons_zero, List.getElem?_cons_succ, List.set_cons_zero, List.set_cons_succ, List.replicate_zero, List.replicate_succ, List.getD_cons_zero, Nat.reduceSub, Nat.reduceAdd, Option.bind_some, Option.bind_none, Option.map_some, if_true, if_false, Bool.and_true, Bool.true_and, Bool.not_true, Bool.not_false, Bool.or_true, Bool.true_or, Bool.false_or, Bool.or_false, Bool.and_false, Bool.false_and, Bool.and_self, Bool.or_self, Bool.false_eq_true, startE, reduceCtorEq, List.contains_nil, List.contains_cons, Nat.reduceBEq, ite_self, Nat.reduceLeDiff, Nat.reduceEqDiff, Int.reduceLE, Int.reduceLT, Int.reduceNeg, Int.reduceAdd, Int.reduceSub, ↓reduceIte, decide_true, decide_false, true_or, or_true, or_false, false_or, or_self, not_true_eq_false, not_false_eq_true, if_true, itemsL_, itemsT_, o_var_, e_var_, o_mv_, e_mv_, o_rel_, e_rel_, o_int_, e_int_, o_bl_, e_bl_, o_str_, e_str_, o_non_, e_non_, o_not_, e_not_, o_and_, e_and_, o_or_, e_or_, o_ife_, e_ife_, o_tup_, e_tup_, o_lst_, e_lst_, o_dnew_, e_dnew_, o_call_, e_call_, o_bi_, e_bi_, o_pop_, e_pop_, o_popAt_, e_popAt_, o_sget_, e_sget_, o_comp_, e_comp_, e_bor_, b_add_, b_addT_, b_addL_, b_sub_, b_mod_, b_fdiv_, b_cmp_, b_neg_, b_idxL_, b_idxT_, b_idxD_, b_slcTt_, b_slcTf_, b_slcLt_, b_slcLf_, b_revL_, b_lenL_, b_lenT_, b_abs_, b_toint_, b_totupL_, b_totupT_, b_tolstL_, b_tolstT_, b_repr_, b_lr1_, b_lr2_, b_lr3_, b_clt_, b_cle_, b_cgt_, b_cge_, b_ceq_, b_cne_, b_cin_, b_cni_, b_badbin_, b_badcmp_, b_wseqL_, b_wseqT_, b_wr1_, b_wr2_, b_wr3_, b_wenL_, b_wenT_, bad_neg_, bad_idx_, bad_rev_, bad_cnt_, bad_len_, bad_sum_, bad_max1_, bad_min1_, bad_max2_, bad_min2_, bad_abs_, bad_toint_, bad_totup_, bad_tolst_, bad_sorted_, bad_repr_, bad_mint_, bad_any_, bad_all_, bad_lrange1_, bad_lrange2_, bad_lrange3_, bad_slc_, bad_dict_, bad_ixL_, bad_ixT_, p20, p21, p10, p30, p31, p32, rd0_, rv0_, ro0_, rl0_, rd1_, rv1_, ro1_, rl1_, rd2_, rv2_, ro2_, rl2_, rd3_, rv3_, ro3_, rl3_, rd4_, rv4_, ro4_, rl4_, rd5_, rv5_, ro5_, rl5_, rd6_, rv6_, ro6_, rl6_, rd7_, rv7_, ro7_, rl7_, rd8_, rv8_, ro8_, rl8_, rd9_, rv9_, ro9_, rl9_, rd10_, rv10_, ro10_, rl10_, rd11_, rv11_, ro11_, rl11_, rd12_, rv12_, ro12_, rl12_, rd13_, rv13_, ro13_, rl13_, rd14_, rv14_, ro14_, rl14_, rd15_, rv15_, ro15_, rl15_, rd16_, rv16_, ro16_, rl16_, rd17_, rv17_, ro17_, rl17_]
    cases hx : wrongP r p with
    | true =>
      rw [hx] at hc
      obtain ⟨y', ih⟩ := isl_turns n ps0 r ps (pr p :: acc) (some (false, pr p)) s (fun q hq => h q (List.mem_cons_of_mem _ hq)) hf
      refine ⟨y', (tn_yes hc).trans (ih.trans ?_)⟩
      rw [List.filter_cons, hx, List.reverse_cons, List.append_assoc]; rfl
    | false =>
      rw [hx] at hc
      obtain ⟨y', ih⟩ := isl_turns n ps0 r ps acc (some (false, pr p)) s (fun q hq => h q (List.mem_cons_of_mem _ hq)) hf
      refine ⟨y', (tn_no hc).trans (ih.trans ?_)⟩
      rw [List.filter_cons, hx]; rfl
theorem isl_run (n : Int) (ps : List (Int × Int)) (r : List Int) (s : Sr) (h : ∀ p ∈ ps, p.1 ∈ r ∧ p.2 ∈ r) (hf : s.fz = true) : runF cf F d__law_is_list [ordD n ps, rowD r] s = some (.bl (isL ps r), s) := by
  obtain ⟨y', t⟩ := isl_turns cf n ps r ps [] none s h hf
  have hno : noOwn [2] [some (false, ordD n ps), some (false, rowD r), none] = true := rfl
  simp only [List.reverse_nil, List.nil_append] at t
  simp only [run_f, s_st, s_nil', k_nx, k_rt, k_bk, k_ct, m_asg, m_asgO, m_asgT, m_par, m_set, m_app, m_expr, m_ite, m_for, m_ret, m_sput, m_sfill, v_var, v_bor, v_int, v_bl, v_str, v_non, v_sget, v_not, v_and, v_or, v_ife, v_tup, v_lst, v_dnew, v_call, v_bi, v_comp, o_nil', o_bor, e_nil, e_star, t_nil', t_ex, c_turn, asB, asI, isSrc, outR, bindT, bindTs, putsE, fr, szLine, List.length_cons, List.length_nil, List.map_cons, List.map_nil, List.cons_append, List.nil_append, List.append_nil, List.getElem?_cons_zero, List.getElem?_cons_succ, List.set_cons_zero, List.set_cons_succ, List.replicate_zero, List.replicate_succ, List.getD_cons_zero, Nat.reduceSub, Nat.reduceAdd, Option.bind_some, Option.bind_none, Option.map_some, if_true, if_false, Bool.and_true, Bool.true_and, Bool.not_true, Bool.not_false, Bool.or_true, Bool.true_or, Bool.false_or, Bool.or_false, Bool.and_false, Bool.false_and, Bool.and_self, Bool.or_self, Bool.false_eq_true, startE, reduceCtorEq, List.contains_nil, List.contains_cons, Nat.reduceBEq, ite_self, Nat.reduceLeDiff, Nat.reduceEqDiff, Int.reduceLE, Int.reduceLT, Int.reduceNeg, Int.reduceAdd, Int.reduceSub, ↓reduceIte, decide_true, decide_false, true_or, or_true, or_false, false_or, or_self, not_true_eq_false, not_false_eq_true, if_true, itemsL_, itemsT_, o_var_, e_var_, o_mv_, e_mv_, o_rel_, e_rel_, o_int_, e_int_, o_bl_, e_bl_, o_str_, e_str_, o_non_, e_non_, o_not_, e_not_, o_and_, e_and_, o_or_, e_or_, o_ife_, e_ife_, o_tup_, e_tup_, o_lst_, e_lst_, o_dnew_, e_dnew_, o_call_, e_call_, o_bi_, e_bi_, o_pop_, e_pop_, o_popAt_, e_popAt_, o_sget_, e_sget_, o_comp_, e_comp_, e_bor_, b_add_, b_addT_, b_addL_, b_sub_, b_mod_, b_fdiv_, b_cmp_, b_neg_, b_idxL_, b_idxT_, b_idxD_, b_slcTt_, b_slcTf_, b_slcLt_, b_slcLf_, b_revL_, b_lenL_, b_lenT_, b_abs_, b_toint_, b_totupL_, b_totupT_, b_tolstL_, b_tolstT_, b_repr_, b_lr1_, b_lr2_, b_lr3_, b_clt_, b_cle_, b_cgt_, b_cge_, b_ceq_, b_cne_, b_cin_, b_cni_, b_badbin_, b_badcmp_, b_wseqL_, b_wseqT_, b_wr1_, b_wr2_, b_wr3_, b_wenL_, b_wenT_, bad_neg_, bad_idx_, bad_rev_, bad_cnt_, bad_len_, bad_sum_, bad_max1_, bad_min1_, bad_max2_, bad_min2_, bad_abs_, bad_toint_, bad_totup_, bad_tolst_, bad_sorted_, bad_repr_, bad_mint_, bad_any_, bad_all_, bad_lrange1_, bad_lrange2_, bad_lrange3_, bad_slc_, bad_dict_, bad_ixL_, bad_ixT_, p20, p21, p10, p30, p31, p32, rd0_, rv0_, ro0_, rl0_, rd1_, rv1_, ro1_, rl1_, rd2_, rv2_, ro2_, rl2_, rd3_, rv3_, ro3_, rl3_, rd4_, rv4_, ro4_, rl4_, rd5_, rv5_, ro5_, rl5_, rd6_, rv6_, ro6_, rl6_, rd7_, rv7_, ro7_, rl7_, rd8_, rv8_, ro8_, rl8_, rd9_, rv9_, ro9_, rl9_, rd10_, rv10_, ro10_, rl10_, rd11_, rv11_, ro11_, rl11_, rd12_, rv12_, ro12_, rl12_, rd13_, rv13_, ro13_, rl13_, rd14_, rv14_, ro14_, rl14_, rd15_, rv15_, ro15_, rl15_, rd16_, rv16_, ro16_, rl16_, rd17_, rv17_, ro17_, rl17_, d__law_is_list, b__law_is_list, hno, t, eqD_nilP, isL]
def lswapR (ps : List (Int × Int)) (r : List Int) (i : Nat) : List Int :=
  let late := r.take i ++ [r.getD (i + 1) 0, r.getD i 0] ++ r.drop (i + 2)
  if isL ps late then late else r
theorem late_perm (r : List Int) (i : Nat) (h : i + 1 < r.length) : (r.take i ++ [r.getD (i + 1) 0, r.getD i 0] ++ r.drop (i + 2)).Perm r := by
  have e : r = r.take i ++ ([r.getD i 0, r.getD (i + 1) 0] ++ r.drop (i + 2)) := by
    have h1 : r.drop i = r.getD i 0 :: r.drop (i + 1) := by rw [List.drop_eq_getElem_cons (by omega), List.getD_eq_getElem?_getD, List.getElem?_eq_getElem (by omega)]; rfl
    have h2 : r.drop (i + 1) = r.getD (i + 1) 0 :: r.drop (i + 2) := by rw [List.drop_eq_getElem_cons h, List.getD_eq_getElem?_getD, List.getElem?_eq_getElem h]; rfl
    conv => lhs; rw [← List.take_append_drop i r, h1, h2]
    rfl
  conv => rhs; rw [e]
  rw [List.append_assoc]
  exact List.Perm.append_left _ (List.Perm.append_right _ (List.Perm.swap ..))
theorem lswap_run (n : Int) (ps : List (Int × Int)) (r : List Int) (i : Nat) (s : Sr) (hi : i + 1 < r.length) (hr : r.length ≤ 1000) (h : ∀ p ∈ ps, p.1 ∈ r ∧ p.2 ∈ r) (hf : s.fz = true) (hc : ∀ r' s, (∀ p ∈ ps, p.1 ∈ r' ∧ p.2 ∈ r') → s.fz = true → cf 16 [ordD n ps, rowD r'] s = some (.bl (isL ps r'), s)) :
    runF cf F d__law_swap [ordD n ps, rowD r, .int i] s = some (rowD (lswapR ps r i), s) := by
  have e1 : (i : Int) + 1 = ((i + 1 : Nat) : Int) := by omega
  have e2 : (i : Int) + 2 = ((i + 2 : Nat) : Int) := by omega
  have pm := late_perm r i hi
  have hcall := hc (r.take i ++ [r.getD (i + 1) 0, r.getD i 0] ++ r.drop (i + 2)) s (fun p hp => ⟨pm.mem_iff.mpr (h p hp).1, pm.mem_iff.mpr (h p hp).2⟩) hf
  have hm : (r.take i).map D.int ++ [D.int (r.getD (i + 1) 0), D.int (r.getD i 0)] ++ (r.drop (i + 2)).map D.int = (r.take i ++ [r.getD (i + 1) 0, r.getD i 0] ++ r.drop (i + 2)).map .int := by simp
  have l1 : (r.take i).length ≤ 16777214 := by rw [List.length_take]; omega
  have l2 : ((r.take i).map D.int ++ [D.int (r.getD (i + 1) 0), D.int (r.getD i 0)]).length + (r.drop (i + 2)).length ≤ 16777216 := by
    simp only [List.length_append, List.length_map, List.length_take, List.length_drop, List.length_cons, List.length_nil]; omega
  simp only [rowD] at hcall
  simp only [run_f, s_st, s_nil', k_nx, k_rt, k_bk, k_ct, m_asg, m_asgO, m_asgT, m_par, m_set, m_app, m_expr, m_ite, m_for, m_ret, m_sput, m_sfill, v_var, v_bor, v_int, v_bl, v_str, v_non, v_sget, v_not, v_and, v_or, v_ife, v_tup, v_lst, v_dnew, v_call, v_bi, v_comp, o_nil', o_bor, e_nil, e_star, t_nil', t_ex, c_turn, asB, asI, isSrc, outR, bindT, bindTs, putsE, fr, szLine, List.length_cons, List.length_nil, List.map_cons, List.map_nil, List.cons_append, List.nil_append, List.append_nil, List.getElem?_cons_zero, List.getElem?_cons_succ, List.set_cons_zero, List.set_cons_succ, List.replicate_zero, List.replicate_succ, List.getD_cons_zero, Nat.reduceSub, Nat.reduceAdd, Option.bind_some, Option.bind_none, Option.map_some, if_true, if_false, Bool.and_true, Bool.true_and, Bool.not_true, Bool.not_false, Bool.or_true, Bool.true_or, Bool.false_or, Bool.or_false, Bool.and_false, Bool.false_and, Bool.and_self, Bool.or_self, Bool.false_eq_true, startE, reduceCtorEq, List.contains_nil, List.contains_cons, Nat.reduceBEq, ite_self, Nat.reduceLeDiff, Nat.reduceEqDiff, Int.reduceLE, Int.reduceLT, Int.reduceNeg, Int.reduceAdd, Int.reduceSub, ↓reduceIte, decide_true, decide_false, true_or, or_true, or_false, false_or, or_self, not_true_eq_false, not_false_eq_true, if_true, itemsL_, itemsT_, o_var_, e_var_, o_mv_, e_mv_, o_rel_, e_rel_, o_int_, e_int_, o_bl_, e_bl_, o_str_, e_str_, o_non_, e_non_, o_not_, e_not_, o_and_, e_and_, o_or_, e_or_, o_ife_, e_ife_, o_tup_, e_tup_, o_lst_, e_lst_, o_dnew_, e_dnew_, o_call_, e_call_, o_bi_, e_bi_, o_pop_, e_pop_, o_popAt_, e_popAt_, o_sget_, e_sget_, o_comp_, e_comp_, e_bor_, b_add_, b_addT_, b_addL_, b_sub_, b_mod_, b_fdiv_, b_cmp_, b_neg_, b_idxL_, b_idxT_, b_idxD_, b_slcTt_, b_slcTf_, b_slcLt_, b_slcLf_, b_revL_, b_lenL_, b_lenT_, b_abs_, b_toint_, b_totupL_, b_totupT_, b_tolstL_, b_tolstT_, b_repr_, b_lr1_, b_lr2_, b_lr3_, b_clt_, b_cle_, b_cgt_, b_cge_, b_ceq_, b_cne_, b_cin_, b_cni_, b_badbin_, b_badcmp_, b_wseqL_, b_wseqT_, b_wr1_, b_wr2_, b_wr3_, b_wenL_, b_wenT_, bad_neg_, bad_idx_, bad_rev_, bad_cnt_, bad_len_, bad_sum_, bad_max1_, bad_min1_, bad_max2_, bad_min2_, bad_abs_, bad_toint_, bad_totup_, bad_tolst_, bad_sorted_, bad_repr_, bad_mint_, bad_any_, bad_all_, bad_lrange1_, bad_lrange2_, bad_lrange3_, bad_slc_, bad_dict_, bad_ixL_, bad_ixT_, p20, p21, p10, p30, p31, p32, rd0_, rv0_, ro0_, rl0_, rd1_, rv1_, ro1_, rl1_, rd2_, rv2_, ro2_, rl2_, rd3_, rv3_, ro3_, rl3_, rd4_, rv4_, ro4_, rl4_, rd5_, rv5_, ro5_, rl5_, rd6_, rv6_, ro6_, rl6_, rd7_, rv7_, ro7_, rl7_, rd8_, rv8_, ro8_, rl8_, rd9_, rv9_, ro9_, rl9_, rd10_, rv10_, ro10_, rl10_, rd11_, rv11_, ro11_, rl11_, rd12_, rv12_, ro12_, rl12_, rd13_, rv13_, ro13_, rl13_, rd14_, rv14_, ro14_, rl14_, rd15_, rv15_, ro15_, rl15_, rd16_, rv16_, ro16_, rl16_, rd17_, rv17_, ro17_, rl17_, d__law_swap, b__law_swap, e1, e2, List.length_map, place_nat (show i < r.length by omega), place_nat hi, row_get hi, row_get (show i < r.length by omega), slc_to (show i ≤ r.length by omega), slc_from (show i + 2 ≤ r.length by omega), l1, l2, hm, hcall]
  unfold lswapR
  cases hq : isL ps (r.take i ++ [r.getD (i + 1) 0, r.getD i 0] ++ r.drop (i + 2)) <;> simp only [run_f, s_st, s_nil', k_nx, k_rt, k_bk, k_ct, m_asg, m_asgO, m_asgT, m_par, m_set, m_app, m_expr, m_ite, m_for, m_ret, m_sput, m_sfill, v_var, v_bor, v_int, v_bl, v_str, v_non, v_sget, v_not, v_and, v_or, v_ife, v_tup, v_lst, v_dnew, v_call, v_bi, v_comp, o_nil', o_bor, e_nil, e_star, t_nil', t_ex, c_turn, asB, asI, isSrc, outR, bindT, bindTs, putsE, fr, szLine, List.length_cons, List.length_nil, List.map_cons, List.map_nil, List.cons_append, List.nil_append, List.append_nil, List.getElem?_cons_zero, List.getElem?_cons_succ, List.set_cons_zero, List.set_cons_succ, List.replicate_zero, List.replicate_succ, List.getD_cons_zero, Nat.reduceSub, Nat.reduceAdd, Option.bind_some, Option.bind_none, Option.map_some, if_true, if_false, Bool.and_true, Bool.true_and, Bool.not_true, Bool.not_false, Bool.or_true, Bool.true_or, Bool.false_or, Bool.or_false, Bool.and_false, Bool.false_and, Bool.and_self, Bool.or_self, Bool.false_eq_true, startE, reduceCtorEq, List.contains_nil, List.contains_cons, Nat.reduceBEq, ite_self, Nat.reduceLeDiff, Nat.reduceEqDiff, Int.reduceLE, Int.reduceLT, Int.reduceNeg, Int.reduceAdd, Int.reduceSub, ↓reduceIte, decide_true, decide_false, true_or, or_true, or_false, false_or, or_self, not_true_eq_false, not_false_eq_true, if_true, itemsL_, itemsT_, o_var_, e_var_, o_mv_, e_mv_, o_rel_, e_rel_, o_int_, e_int_, o_bl_, e_bl_, o_str_, e_str_, o_non_, e_non_, o_not_, e_not_, o_and_, e_and_, o_or_, e_or_, o_ife_, e_ife_, o_tup_, e_tup_, o_lst_, e_lst_, o_dnew_, e_dnew_, o_call_, e_call_, o_bi_, e_bi_, o_pop_, e_pop_, o_popAt_, e_popAt_, o_sget_, e_sget_, o_comp_, e_comp_, e_bor_, b_add_, b_addT_, b_addL_, b_sub_, b_mod_, b_fdiv_, b_cmp_, b_neg_, b_idxL_, b_idxT_, b_idxD_, b_slcTt_, b_slcTf_, b_slcLt_, b_slcLf_, b_revL_, b_lenL_, b_lenT_, b_abs_, b_toint_, b_totupL_, b_totupT_, b_tolstL_, b_tolstT_, b_repr_, b_lr1_, b_lr2_, b_lr3_, b_clt_, b_cle_, b_cgt_, b_cge_, b_ceq_, b_cne_, b_cin_, b_cni_, b_badbin_, b_badcmp_, b_wseqL_, b_wseqT_, b_wr1_, b_wr2_, b_wr3_, b_wenL_, b_wenT_, bad_neg_, bad_idx_, bad_rev_, bad_cnt_, bad_len_, bad_sum_, bad_max1_, bad_min1_, bad_max2_, bad_min2_, bad_abs_, bad_toint_, bad_totup_, bad_tolst_, bad_sorted_, bad_repr_, bad_mint_, bad_any_, bad_all_, bad_lrange1_, bad_lrange2_, bad_lrange3_, bad_slc_, bad_dict_, bad_ixL_, bad_ixT_, p20, p21, p10, p30, p31, p32, rd0_, rv0_, ro0_, rl0_, rd1_, rv1_, ro1_, rl1_, rd2_, rv2_, ro2_, rl2_, rd3_, rv3_, ro3_, rl3_, rd4_, rv4_, ro4_, rl4_, rd5_, rv5_, ro5_, rl5_, rd6_, rv6_, ro6_, rl6_, rd7_, rv7_, ro7_, rl7_, rd8_, rv8_, ro8_, rl8_, rd9_, rv9_, ro9_, rl9_, rd10_, rv10_, ro10_, rl10_, rd11_, rv11_, ro11_, rl11_, rd12_, rv12_, ro12_, rl12_, rd13_, rv13_, ro13_, rl13_, rd14_, rv14_, ro14_, rl14_, rd15_, rv15_, ro15_, rl15_, rd16_, rv16_, ro16_, rl16_, rd17_, rv17_, ro17_, rl17_, hq, rowD]
theorem lswap_perm (ps : List (Int × Int)) (r : List Int) (i : Nat) (h : i + 1 < r.length) : (lswapR ps r i).Perm r := by
  unfold lswapR
  simp only
  split
  · exact late_perm r i h
  · exact .refl _
def lalongR (ps : List (Int × Int)) (r : List Int) (ks : List Nat) : List Int := ks.foldl (lswapR ps) r
theorem lalong_for (n : Int) (ps : List (Int × Int)) (m : Nat) (hm : m ≤ 1000) (hc : ∀ (r : List Int) (i : Nat) s, i + 1 < r.length → r.length = m → (∀ p ∈ ps, p.1 ∈ r ∧ p.2 ∈ r) → s.fz = true → cf 17 [ordD n ps, rowD r, .int i] s = some (rowD (lswapR ps r i), s)) (x : D) (ff : Bool) :
    ∀ (ks : List Nat) (r : List Int) (y : Option (Bool × D)) (s : Sr), (∀ k ∈ ks, k + 1 < m) → r.length = m → (∀ p ∈ ps, p.1 ∈ r ∧ p.2 ∈ r) → s.fz = true → nOw y → ∃ y', forT (forB cf ff F (.nm 3) [.asg 1 (.call 17 false [.var 0, .var 1, .var 3])]) (natsD ks) [some (false, ordD n ps), some (false, rowD r), some (false, x), y] s =
      some (.nx [some (false, ordD n ps), some (false, rowD (lalongR ps r ks)), some (false, x), y'] s)
  | [], r, y, s, _, _, _, _, _ => ⟨y, rfl⟩
  | k :: ks, r, y, s, hk, hr, hp, hf, hy => by
    have h1 := hk k List.mem_cons_self
    have h2 := hc r k s (by omega) hr hp hf
    have pm := lswap_perm ps r k (by omega)
    obtain ⟨y', ih⟩ := lalong_for n ps m hm hc x ff ks (lswapR ps r k) (some (false, .int (k : Int))) s (fun j hj => hk j (List.mem_cons_of_mem _ hj)) (by rw [pm.length_eq, hr]) (fun p h => ⟨pm.mem_iff.mpr (hp p h).1, pm.mem_iff.mpr (hp p h).2⟩) hf (fun d h => by cases h)
    refine ⟨y', (f_step ?_).trans ih⟩
    unfold forB
    rw [bind_nm (fun d h => hy d (by simpa using h))]
    simp only [run_f, s_st, s_nil', k_nx, k_rt, k_bk, k_ct, m_asg, m_asgO, m_asgT, m_par, m_set, m_app, m_expr, m_ite, m_for, m_ret, m_sput, m_sfill, v_var, v_bor, v_int, v_bl, v_str, v_non, v_sget, v_not, v_and, v_or, v_ife, v_tup, v_lst, v_dnew, v_call, v_bi, v_comp, o_nil', o_bor, e_nil, e_star, t_nil', t_ex, c_turn, asB, asI, isSrc, outR, bindT, bindTs, putsE, fr, szLine, List.length_cons, List.length_nil, List.map_cons, List.map_nil, List.cons_append, List.nil_append, List.append_nil, List.getElem?_cons_zero, List.getElem?_cons_succ, List.set_cons_zero, List.set_cons_succ, List.replicate_zero, List.replicate_succ, List.getD_cons_zero, Nat.reduceSub, Nat.reduceAdd, Option.bind_some, Option.bind_none, Option.map_some, if_true, if_false, Bool.and_true, Bool.true_and, Bool.not_true, Bool.not_false, Bool.or_true, Bool.true_or, Bool.false_or, Bool.or_false, Bool.and_false, Bool.false_and, Bool.and_self, Bool.or_self, Bool.false_eq_true, startE, reduceCtorEq, List.contains_nil, List.contains_cons, Nat.reduceBEq, ite_self, Nat.reduceLeDiff, Nat.reduceEqDiff, Int.reduceLE, Int.reduceLT, Int.reduceNeg, Int.reduceAdd, Int.reduceSub, ↓reduceIte, decide_true, decide_false, true_or, or_true, or_false, false_or, or_self, not_true_eq_false, not_false_eq_true, if_true, itemsL_, itemsT_, o_var_, e_var_, o_mv_, e_mv_, o_rel_, e_rel_, o_int_, e_int_, o_bl_, e_bl_, o_str_, e_str_, o_non_, e_non_, o_not_, e_not_, o_and_, e_and_, o_or_, e_or_, o_ife_, e_ife_, o_tup_, e_tup_, o_lst_, e_lst_, o_dnew_, e_dnew_, o_call_, e_call_, o_bi_, e_bi_, o_pop_, e_pop_, o_popAt_, e_popAt_, o_sget_, e_sget_, o_comp_, e_comp_, e_bor_, b_add_, b_addT_, b_addL_, b_sub_, b_mod_, b_fdiv_, b_cmp_, b_neg_, b_idxL_, b_idxT_, b_idxD_, b_slcTt_, b_slcTf_, b_slcLt_, b_slcLf_, b_revL_, b_lenL_, b_lenT_, b_abs_, b_toint_, b_totupL_, b_totupT_, b_tolstL_, b_tolstT_, b_repr_, b_lr1_, b_lr2_, b_lr3_, b_clt_, b_cle_, b_cgt_, b_cge_, b_ceq_, b_cne_, b_cin_, b_cni_, b_badbin_, b_badcmp_, b_wseqL_, b_wseqT_, b_wr1_, b_wr2_, b_wr3_, b_wenL_, b_wenT_, bad_neg_, bad_idx_, bad_rev_, bad_cnt_, bad_len_, bad_sum_, bad_max1_, bad_min1_, bad_max2_, bad_min2_, bad_abs_, bad_toint_, bad_totup_, bad_tolst_, bad_sorted_, bad_repr_, bad_mint_, bad_any_, bad_all_, bad_lrange1_, bad_lrange2_, bad_lrange3_, bad_slc_, bad_dict_, bad_ixL_, bad_ixT_, p20, p21, p10, p30, p31, p32, rd0_, rv0_, ro0_, rl0_, rd1_, rv1_, ro1_, rl1_, rd2_, rv2_, ro2_, rl2_, rd3_, rv3_, ro3_, rl3_, rd4_, rv4_, ro4_, rl4_, rd5_, rv5_, ro5_, rl5_, rd6_, rv6_, ro6_, rl6_, rd7_, rv7_, ro7_, rl7_, rd8_, rv8_, ro8_, rl8_, rd9_, rv9_, ro9_, rl9_, rd10_, rv10_, ro10_, rl10_, rd11_, rv11_, ro11_, rl11_, rd12_, rv12_, ro12_, rl12_, rd13_, rv13_, ro13_, rl13_, rd14_, rv14_, ro14_, rl14_, rd15_, rv15_, ro15_, rl15_, rd16_, rv16_, ro16_, rl16_, rd17_, rv17_, ro17_, rl17_, h2]
theorem lalong_run (n : Int) (ps : List (Int × Int)) (m : Nat) (hm : m ≤ 1000) (hc : ∀ (r : List Int) (i : Nat) s, i + 1 < r.length → r.length = m → (∀ p ∈ ps, p.1 ∈ r ∧ p.2 ∈ r) → s.fz = true → cf 17 [ordD n ps, rowD r, .int i] s = some (rowD (lswapR ps r i), s)) (x : D) (ks : List Nat) (hx : D.items x = some (natsD ks)) (r : List Int) (s : Sr) (hk : ∀ k ∈ ks, k + 1 < m) (hr : r.length = m) (hp : ∀ p ∈ ps, p.1 ∈ r ∧ p.2 ∈ r) (hf : s.fz = true) :
    runF cf F d__law_along [ordD n ps, rowD r, x] s = some (rowD (lalongR ps r ks), s) := by
  obtain ⟨y', h⟩ := lalong_for cf F n ps m hm hc x false ks r none s hk hr hp hf (fun d h => by cases h)
  simp only [run_f, s_st, s_nil', k_nx, k_rt, k_bk, k_ct, m_asg, m_asgO, m_asgT, m_par, m_set, m_app, m_expr, m_ite, m_for, m_ret, m_sput, m_sfill, v_var, v_bor, v_int, v_bl, v_str, v_non, v_sget, v_not, v_and, v_or, v_ife, v_tup, v_lst, v_dnew, v_call, v_bi, v_comp, o_nil', o_bor, e_nil, e_star, t_nil', t_ex, c_turn, asB, asI, isSrc, outR, bindT, bindTs, putsE, fr, szLine, List.length_cons, List.length_nil, List.map_cons, List.map_nil, List.cons_append, List.nil_append, List.append_nil, List.getElem?_cons_zero, List.getElem?_cons_succ, List.set_cons_zero, List.set_cons_succ, List.replicate_zero, List.replicate_succ, List.getD_cons_zero, Nat.reduceSub, Nat.reduceAdd, Option.bind_some, Option.bind_none, Option.map_some, if_true, if_false, Bool.and_true, Bool.true_and, Bool.not_true, Bool.not_false, Bool.or_true, Bool.true_or, Bool.false_or, Bool.or_false, Bool.and_false, Bool.false_and, Bool.and_self, Bool.or_self, Bool.false_eq_true, startE, reduceCtorEq, List.contains_nil, List.contains_cons, Nat.reduceBEq, ite_self, Nat.reduceLeDiff, Nat.reduceEqDiff, Int.reduceLE, Int.reduceLT, Int.reduceNeg, Int.reduceAdd, Int.reduceSub, ↓reduceIte, decide_true, decide_false, true_or, or_true, or_false, false_or, or_self, not_true_eq_false, not_false_eq_true, if_true, itemsL_, itemsT_, o_var_, e_var_, o_mv_, e_mv_, o_rel_, e_rel_, o_int_, e_int_, o_bl_, e_bl_, o_str_, e_str_, o_non_, e_non_, o_not_, e_not_, o_and_, e_and_, o_or_, e_or_, o_ife_, e_ife_, o_tup_, e_tup_, o_lst_, e_lst_, o_dnew_, e_dnew_, o_call_, e_call_, o_bi_, e_bi_, o_pop_, e_pop_, o_popAt_, e_popAt_, o_sget_, e_sget_, o_comp_, e_comp_, e_bor_, b_add_, b_addT_, b_addL_, b_sub_, b_mod_, b_fdiv_, b_cmp_, b_neg_, b_idxL_, b_idxT_, b_idxD_, b_slcTt_, b_slcTf_, b_slcLt_, b_slcLf_, b_revL_, b_lenL_, b_lenT_, b_abs_, b_toint_, b_totupL_, b_totupT_, b_tolstL_, b_tolstT_, b_repr_, b_lr1_, b_lr2_, b_lr3_, b_clt_, b_cle_, b_cgt_, b_cge_, b_ceq_, b_cne_, b_cin_, b_cni_, b_badbin_, b_badcmp_, b_wseqL_, b_wseqT_, b_wr1_, b_wr2_, b_wr3_, b_wenL_, b_wenT_, bad_neg_, bad_idx_, bad_rev_, bad_cnt_, bad_len_, bad_sum_, bad_max1_, bad_min1_, bad_max2_, bad_min2_, bad_abs_, bad_toint_, bad_totup_, bad_tolst_, bad_sorted_, bad_repr_, bad_mint_, bad_any_, bad_all_, bad_lrange1_, bad_lrange2_, bad_lrange3_, bad_slc_, bad_dict_, bad_ixL_, bad_ixT_, p20, p21, p10, p30, p31, p32, rd0_, rv0_, ro0_, rl0_, rd1_, rv1_, ro1_, rl1_, rd2_, rv2_, ro2_, rl2_, rd3_, rv3_, ro3_, rl3_, rd4_, rv4_, ro4_, rl4_, rd5_, rv5_, ro5_, rl5_, rd6_, rv6_, ro6_, rl6_, rd7_, rv7_, ro7_, rl7_, rd8_, rv8_, ro8_, rl8_, rd9_, rv9_, ro9_, rl9_, rd10_, rv10_, ro10_, rl10_, rd11_, rv11_, ro11_, rl11_, rd12_, rv12_, ro12_, rl12_, rd13_, rv13_, ro13_, rl13_, rd14_, rv14_, ro14_, rl14_, rd15_, rv15_, ro15_, rl15_, rd16_, rv16_, ro16_, rl16_, rd17_, rv17_, ro17_, rl17_, d__law_along, b__law_along, walk, hx, h]
/-! lists that keep the order -/
/-- r keeps ps: all works, none twice, the first of each pair ahead -/
structure Lin (n : Int) (ps : List (Int × Int)) (r : List Int) : Prop where
  len : n = r.length
  pos : 0 < r.length
  small : r.length ≤ 100
  nd : r.Nodup
  mem : ∀ w, w ∈ r ↔ 0 ≤ w ∧ w < n
  ext : ∀ a b, (a, b) ∈ ps → ∃ i j : Nat, i < j ∧ r[i]? = some a ∧ r[j]? = some b
theorem Lin.pm {n : Int} {ps : List (Int × Int)} {r : List Int} (h : Lin n ps r) : ∀ p ∈ ps, p.1 ∈ r ∧ p.2 ∈ r := fun p hp => by
  obtain ⟨i, j, _, h1, h2⟩ := h.ext p.1 p.2 hp
  exact ⟨List.mem_of_getElem? h1, List.mem_of_getElem? h2⟩
theorem idx_at {r : List Int} (nd : r.Nodup) {i : Nat} {a : Int} (h : r[i]? = some a) : r.idxOf a = i := by
  have hm : a ∈ r := List.mem_of_getElem? h
  have hl := List.idxOf_lt_length_of_mem hm
  have e : r[r.idxOf a]? = some a := by rw [List.getElem?_eq_getElem hl, List.getElem_idxOf hl]
  exact nd_inj nd e h
theorem isL_iff {n : Int} {ps : List (Int × Int)} {r : List Int} (nd : r.Nodup) (hm : ∀ p ∈ ps, p.1 ∈ r ∧ p.2 ∈ r) : isL ps r = true ↔ ∀ a b, (a, b) ∈ ps → ∃ i j : Nat, i ≤ j ∧ r[i]? = some a ∧ r[j]? = some b := by
  unfold isL
  rw [List.isEmpty_iff, List.filter_eq_nil_iff]
  constructor
  · intro h a b hab
    have h1 := h (a, b) hab
    obtain ⟨m1, m2⟩ := hm (a, b) hab
    obtain ⟨i, hi⟩ := List.getElem?_of_mem m1
    obtain ⟨j, hj⟩ := List.getElem?_of_mem m2
    have e1 := idx_at nd hi
    have e2 := idx_at nd hj
    unfold wrongP at h1
    simp only [decide_eq_true_eq] at h1
    simp only at e1 e2
    exact ⟨i, j, by omega, hi, hj⟩
  · intro h p hp
    obtain ⟨i, j, hij, h1, h2⟩ := h p.1 p.2 hp
    unfold wrongP
    rw [idx_at nd h1, idx_at nd h2]
    simp; omega
/-! swaps -/
def late (r : List Int) (i : Nat) : List Int := r.take i ++ r.getD (i + 1) 0 :: r.getD i 0 :: r.drop (i + 2)
theorem late_get (r : List Int) (i : Nat) (h : i + 1 < r.length) (k : Nat) : (late r i)[k]? = if k = i then r[i + 1]? else if k = i + 1 then r[i]? else r[k]? := by
  have e0 : r[i]? = some (r.getD i 0) := by rw [List.getElem?_eq_getElem (by omega), List.getD_eq_getElem?_getD, List.getElem?_eq_getElem (by omega)]; rfl
  have e1 : r[i + 1]? = some (r.getD (i + 1) 0) := by rw [List.getElem?_eq_getElem h, List.getD_eq_getElem?_getD, List.getElem?_eq_getElem h]; rfl
  unfold late
  by_cases hk : k < i
  · rw [List.getElem?_append_left (by rw [List.length_take]; omega), List.getElem?_take, if_pos hk, if_neg (by omega), if_neg (by omega)]
  · rw [List.getElem?_append_right (by rw [List.length_take]; omega), List.length_take, Nat.min_eq_left (by omega)]
    by_cases h1 : k = i
    · subst h1; rw [if_pos rfl, Nat.sub_self, e1]; rfl
    · rw [if_neg h1]
      by_cases h2 : k = i + 1
      · subst h2
        rw [if_pos rfl, show i + 1 - i = 1 by omega, e0]; rfl
      · rw [if_neg h2]
        obtain ⟨m, hm⟩ : ∃ m, k = i + 2 + m := ⟨k - (i + 2), by omega⟩
        subst hm
        rw [show i + 2 + m - i = m + 2 by omega]
        simp only [List.getElem?_cons_succ, List.getElem?_drop]
theorem late_len (r : List Int) (i : Nat) (h : i + 1 < r.length) : (late r i).length = r.length := by
  unfold late
  simp only [List.length_append, List.length_take, List.length_cons, List.length_drop]; omega
theorem late_two (r : List Int) (i : Nat) (h : i + 1 < r.length) : late (late r i) i = r := by
  apply List.ext_getElem?
  intro k
  rw [late_get (late r i) i (by rw [late_len r i h]; exact h), late_get r i h, late_get r i h, late_get r i h]
  by_cases h1 : k = i
  · subst h1; simp
  · by_cases h2 : k = i + 1
    · subst h2; simp
    · simp [h1, h2]
theorem late_comm (r : List Int) (i j : Nat) (h : i + 1 < r.length) (hj : j + 1 < r.length) (hd : i + 2 ≤ j) : late (late r i) j = late (late r j) i := by
  apply List.ext_getElem?
  intro k
  rw [late_get (late r i) j (by rw [late_len r i h]; exact hj), late_get (late r j) i (by rw [late_len r j hj]; exact h)]
  simp only [late_get r i h, late_get r j hj]
  by_cases a1 : k = i
  · subst a1
    have : ¬ k = j := by omega
    have : ¬ k = j + 1 := by omega
    have : ¬ k + 1 = j := by omega
    have : ¬ k + 1 = j + 1 := by omega
    simp [*]
  · by_cases a2 : k = i + 1
    · subst a2
      have : ¬ i + 1 = j := by omega
      have : ¬ i = j := by omega
      have : ¬ i = j + 1 := by omega
      simp [*]
    · have e1 : ¬ j + 1 = i := by omega
      have e2 : ¬ j = i := by omega
      have e3 : ¬ j = i + 1 := by omega
      simp only [a1, a2, if_false, e1, e2, e3]
      by_cases a3 : k = j
      · subst a3; simp [e2]
      · by_cases a4 : k = j + 1
        · subst a4; simp [e2, e3]
        · simp [a3, a4]
theorem getD_of (r : List Int) (k : Nat) : r.getD k 0 = (r[k]?).getD 0 := List.getD_eq_getElem?_getD
theorem swapR_late (ps : List (Int × Int)) (r : List Int) (i : Nat) : swapR ps r i = if loose ps (r.getD i 0) (r.getD (i + 1) 0) then late r i else r := rfl
theorem loose_comm (ps : List (Int × Int)) (a b : Int) : loose ps a b = loose ps b a := by unfold loose; rw [Bool.and_comm]
/-- twice the same swap -/
theorem swap_two (ps : List (Int × Int)) (r : List Int) (i : Nat) (h : i + 1 < r.length) : swapR ps (swapR ps r i) i = r := by
  rw [swapR_late ps r i]
  cases hl : loose ps (r.getD i 0) (r.getD (i + 1) 0) with
  | false => rw [if_neg Bool.false_ne_true, swapR_late, hl, if_neg Bool.false_ne_true]
  | true =>
    rw [if_pos rfl, swapR_late]
    have g1 : (late r i).getD i 0 = r.getD (i + 1) 0 := by rw [getD_of, late_get r i h, if_pos rfl, ← getD_of]
    have g2 : (late r i).getD (i + 1) 0 = r.getD i 0 := by rw [getD_of, late_get r i h, if_neg (by omega), if_pos rfl, ← getD_of]
    rw [g1, g2, loose_comm, hl, if_pos rfl, late_two r i h]
theorem swap_comm (ps : List (Int × Int)) (r : List Int) (i j : Nat) (h : i + 1 < r.length) (hj : j + 1 < r.length) (hd : i + 2 ≤ j) : swapR ps (swapR ps r i) j = swapR ps (swapR ps r j) i := by
  have g1 : ∀ k, k = j ∨ k = j + 1 → (late r i).getD k 0 = r.getD k 0 := fun k hk => by rw [getD_of, late_get r i h, if_neg (by omega), if_neg (by omega), ← getD_of]
  have g2 : ∀ k, k = i ∨ k = i + 1 → (late r j).getD k 0 = r.getD k 0 := fun k hk => by rw [getD_of, late_get r j hj, if_neg (by omega), if_neg (by omega), ← getD_of]
  rw [swapR_late ps r i, swapR_late ps r j]
  cases hi : loose ps (r.getD i 0) (r.getD (i + 1) 0) <;> cases hl : loose ps (r.getD j 0) (r.getD (j + 1) 0) <;> simp only [if_true, if_false, Bool.false_eq_true] <;>
    simp only [swapR_late, g1 j (.inl rfl), g1 (j + 1) (.inr rfl), g2 i (.inl rfl), g2 (i + 1) (.inr rfl), hi, hl, if_true, if_false, Bool.false_eq_true]
  exact late_comm r i j h hj hd
theorem late_eq (r : List Int) (i : Nat) : r.take i ++ [r.getD (i + 1) 0, r.getD i 0] ++ r.drop (i + 2) = late r i := by unfold late; simp
/-- both ways of swapping -/
theorem lswap_eq {n : Int} {ps : List (Int × Int)} {r : List Int} (L : Lin n ps r) {i : Nat} (h : i + 1 < r.length) : lswapR ps r i = swapR ps r i ∧ Lin n ps (swapR ps r i) := by
  have e0 : r[i]? = some (r.getD i 0) := by rw [List.getElem?_eq_getElem (by omega), List.getD_eq_getElem?_getD, List.getElem?_eq_getElem (by omega)]; rfl
  have e1 : r[i + 1]? = some (r.getD (i + 1) 0) := by rw [List.getElem?_eq_getElem h, List.getD_eq_getElem?_getD, List.getElem?_eq_getElem h]; rfl
  have pm : (late r i).Perm r := by rw [← late_eq]; exact late_perm r i h
  have ndl : (late r i).Nodup := pm.nodup_iff.mpr L.nd
  have hm : ∀ p ∈ ps, p.1 ∈ late r i ∧ p.2 ∈ late r i := fun p hp => ⟨pm.mem_iff.mpr (L.pm p hp).1, pm.mem_iff.mpr (L.pm p hp).2⟩
  have l0 : (late r i)[i]? = some (r.getD (i + 1) 0) := by rw [late_get r i h, if_pos rfl, e1]
  have l1 : (late r i)[i + 1]? = some (r.getD i 0) := by rw [late_get r i h, if_neg (by omega), if_pos rfl, e0]
  have nba : ps.contains (r.getD (i + 1) 0, r.getD i 0) = false := by
    cases hc : ps.contains (r.getD (i + 1) 0, r.getD i 0) with
    | false => rfl
    | true =>
      obtain ⟨p, q, hpq, h1, h2⟩ := L.ext _ _ (by simpa using hc)
      have := nd_inj L.nd h1 e1
      have := nd_inj L.nd h2 e0
      omega
  have strict : ps.contains (r.getD i 0, r.getD (i + 1) 0) = false → ∀ a b, (a, b) ∈ ps → ∃ p q : Nat, p < q ∧ (late r i)[p]? = some a ∧ (late r i)[q]? = some b := by
    intro hc a b hab
    obtain ⟨p, q, hpq, h1, h2⟩ := L.ext a b hab
    have at_ : ∀ {k : Nat} {x : Int}, r[k]? = some x → (late r i)[if k = i then i + 1 else if k = i + 1 then i else k]? = some x := fun {k x} hx => by
      rw [late_get r i h]
      by_cases z1 : k = i
      · subst z1; simp [hx]
      · by_cases z2 : k = i + 1
        · subst z2; simp [hx]
        · simp [z1, z2, hx]
    refine ⟨_, _, ?_, at_ h1, at_ h2⟩
    by_cases z : p = i ∧ q = i + 1
    · obtain ⟨rfl, rfl⟩ := z
      rw [e0] at h1; rw [e1] at h2
      cases h1; cases h2
      have : ps.contains (r.getD p 0, r.getD (p + 1) 0) = true := by simpa using hab
      rw [hc] at this; cases this
    · split <;> split <;> (try split) <;> (try split) <;> omega
  have key : isL ps (late r i) = loose ps (r.getD i 0) (r.getD (i + 1) 0) := by
    unfold loose
    rw [nba]
    cases hc : ps.contains (r.getD i 0, r.getD (i + 1) 0) with
    | true =>
      cases hq : isL ps (late r i) with
      | false => rfl
      | true =>
        obtain ⟨p, q, hpq, h1, h2⟩ := (isL_iff (n := n) ndl hm).mp hq _ _ (by simpa using hc)
        have := nd_inj ndl h1 l1
        have := nd_inj ndl h2 l0
        omega
    | false =>
      have := (isL_iff (n := n) ndl hm).mpr fun a b hab => by
        obtain ⟨p, q, hpq, h1, h2⟩ := strict hc a b hab
        exact ⟨p, q, Nat.le_of_lt hpq, h1, h2⟩
      rw [this]; rfl
  refine ⟨?_, ?_⟩
  · unfold lswapR
    simp only [late_eq]
    rw [swapR_late, key]
  · rw [swapR_late]
    cases hl : loose ps (r.getD i 0) (r.getD (i + 1) 0) with
    | false => rw [if_neg Bool.false_ne_true]; exact L
    | true =>
      rw [if_pos rfl]
      have hc : ps.contains (r.getD i 0, r.getD (i + 1) 0) = false := by
        unfold loose at hl
        cases hq : ps.contains (r.getD i 0, r.getD (i + 1) 0) with
        | false => rfl
        | true => rw [hq] at hl; cases hl
      exact ⟨by rw [late_len r i h]; exact L.len, by rw [late_len r i h]; exact L.pos, by rw [late_len r i h]; exact L.small, ndl, fun w => (pm.mem_iff).trans (L.mem w), strict hc⟩
theorem lalong_eq {n : Int} {ps : List (Int × Int)} : ∀ (ks : List Nat) {r : List Int}, Lin n ps r → (∀ k ∈ ks, k + 1 < r.length) → lalongR ps r ks = alongR ps r ks ∧ Lin n ps (alongR ps r ks)
  | [], r, L, _ => ⟨rfl, L⟩
  | k :: ks, r, L, h => by
    obtain ⟨e, L2⟩ := lswap_eq L (h k List.mem_cons_self)
    have hl := swapR_length ps r k (h k List.mem_cons_self)
    obtain ⟨e2, L3⟩ := lalong_eq ks L2 fun j hj => by rw [hl]; exact h j (List.mem_cons_of_mem _ hj)
    refine ⟨?_, L3⟩
    show lalongR ps (lswapR ps r k) ks = _
    rw [e, e2]; rfl
/-- there and back -/
theorem along_back (ps : List (Int × Int)) : ∀ (ks : List Nat) (r : List Int), (∀ k ∈ ks, k + 1 < r.length) → alongR ps (alongR ps r ks) ks.reverse = r
  | [], r, _ => rfl
  | k :: ks, r, h => by
    have h1 := h k List.mem_cons_self
    have hl := swapR_length ps r k h1
    have ih := along_back ps ks (swapR ps r k) fun j hj => by rw [hl]; exact h j (List.mem_cons_of_mem _ hj)
    show alongR ps (alongR ps (swapR ps r k) ks) (k :: ks).reverse = r
    rw [List.reverse_cons]
    unfold alongR at ih ⊢
    rw [List.foldl_append, ih]
    exact swap_two ps r k h1
/-! promotion is all swaps in a row -/
def carS (ps : List (Int × Int)) (q : List Int × Int) (w : Int) : List Int × Int := if loose ps q.2 w then (q.1 ++ [w], q.2) else (q.1 ++ [q.2], w)
theorem along_car (ps : List (Int × Int)) : ∀ (ws pre : List Int) (c : Int), alongR ps (pre ++ c :: ws) (List.range' pre.length ws.length) = (ws.foldl (carS ps) (pre, c)).1 ++ [(ws.foldl (carS ps) (pre, c)).2]
  | [], pre, c => rfl
  | w :: ws, pre, c => by
    rw [List.length_cons, List.range'_succ]
    show alongR ps (swapR ps (pre ++ c :: w :: ws) pre.length) (List.range' (pre.length + 1) ws.length) = _
    have g0 : (pre ++ c :: w :: ws).getD pre.length 0 = c := by rw [getD_of, List.getElem?_append_right (Nat.le_refl _), Nat.sub_self]; rfl
    have g1 : (pre ++ c :: w :: ws).getD (pre.length + 1) 0 = w := by rw [getD_of, List.getElem?_append_right (Nat.le_succ _), show pre.length + 1 - pre.length = 1 by omega]; rfl
    have t0 : (pre ++ c :: w :: ws).take pre.length = pre := by rw [List.take_append_of_le_length (Nat.le_refl _), List.take_length]
    have d0 : (pre ++ c :: w :: ws).drop (pre.length + 2) = ws := by
      rw [List.drop_append, List.drop_of_length_le (by omega), show pre.length + 2 - pre.length = 2 by omega]; rfl
    rw [List.foldl_cons]
    rw [swapR_late, g0, g1]
    unfold carS
    cases hl : loose ps c w with
    | true =>
      simp only [if_true, hl]
      have e : late (pre ++ c :: w :: ws) pre.length = (pre ++ [w]) ++ c :: ws := by unfold late; rw [t0, d0, g0, g1]; simp
      have ih := along_car ps ws (pre ++ [w]) c
      rw [List.length_append, List.length_singleton] at ih
      rw [e]
      exact ih
    | false =>
      simp only [if_false, hl, Bool.false_eq_true]
      have e : pre ++ c :: w :: ws = (pre ++ [c]) ++ w :: ws := by simp
      have ih := along_car ps ws (pre ++ [c]) w
      rw [List.length_append, List.length_singleton] at ih
      rw [e]
      exact ih
theorem path_pre (ps : List (Int × Int)) : ∀ (ws p : List Int), ∃ e, ws.foldl (pathS ps) p = p ++ e ∧ ∀ x ∈ e, x ∈ ws
  | [], p => ⟨[], by simp, fun x h => (by cases h)⟩
  | w :: ws, p => by
    obtain ⟨e, h1, h2⟩ := path_pre ps ws (pathS ps p w)
    rw [List.foldl_cons, h1]
    unfold pathS
    split
    · exact ⟨w :: e, by simp, fun x hx => (List.mem_cons.mp hx).elim (fun h => by rw [h]; exact List.mem_cons_self) fun h => List.mem_cons_of_mem _ (h2 x h)⟩
    · exact ⟨e, rfl, fun x hx => List.mem_cons_of_mem _ (h2 x hx)⟩
theorem prom_car (ps : List (Int × Int)) : ∀ (ws p found : List Int) (c : Int), 0 < p.length → p.getD (p.length - 1) 0 = c → (c :: ws).Nodup → (c :: ws).Pairwise (fun x y => ps.contains (y, x) = false) →
    (ws.foldl (promS (ws.foldl (pathS ps) p)) (found, p.length - 1)).1 = (ws.foldl (carS ps) (found, c)).1 ∧ (ws.foldl (pathS ps) p).getD ((ws.foldl (pathS ps) p).length - 1) 0 = (ws.foldl (carS ps) (found, c)).2
  | [], p, found, c, hp, hc, _, _ => ⟨rfl, hc⟩
  | w :: ws, p, found, c, hp, hc, nd, pw => by
    rw [List.pairwise_cons] at pw
    obtain ⟨pw1, pw2⟩ := pw
    have nwc := pw1 w List.mem_cons_self
    rw [List.nodup_cons] at nd
    simp only [List.foldl_cons]
    cases hcw : ps.contains (c, w) with
    | true =>
      have e1 : pathS ps p w = p ++ [w] := by unfold pathS; rw [hc, hcw, if_pos rfl]
      have e2 : carS ps (found, c) w = (found ++ [c], w) := by unfold carS loose; simp only [hcw]; rfl
      rw [e1, e2]
      obtain ⟨e, h1, _⟩ := path_pre ps ws (p ++ [w])
      have e3 : promS (ws.foldl (pathS ps) (p ++ [w])) (found, p.length - 1) w = (found ++ [c], p.length) := by
        unfold promS
        rw [h1]
        have l1 : p.length - 1 + 1 = p.length := by omega
        have g : (p ++ [w] ++ e).getD p.length 0 = w := by rw [List.append_assoc, getD_of, List.getElem?_append_right (Nat.le_refl _), Nat.sub_self]; rfl
        have g2 : (p ++ [w] ++ e).getD (p.length - 1) 0 = c := by rw [List.append_assoc, getD_of, List.getElem?_append_left (by omega), ← getD_of, hc]
        simp only [l1, g, g2]
        rw [if_pos ⟨by simp, trivial⟩]
      rw [e3]
      have ih := prom_car ps ws (p ++ [w]) (found ++ [c]) w (by simp) (by rw [List.length_append, List.length_singleton, Nat.add_sub_cancel, getD_of, List.getElem?_append_right (Nat.le_refl _), Nat.sub_self]; rfl) nd.2 pw2
      rw [List.length_append, List.length_singleton, Nat.add_sub_cancel] at ih
      exact ih
    | false =>
      have e1 : pathS ps p w = p := by unfold pathS; rw [hc, hcw, if_neg Bool.false_ne_true]
      have e2 : carS ps (found, c) w = (found ++ [w], c) := by unfold carS loose; simp only [hcw, nwc]; rfl
      rw [e1, e2]
      obtain ⟨e, h1, h2⟩ := path_pre ps ws p
      have e3 : promS (ws.foldl (pathS ps) p) (found, p.length - 1) w = (found ++ [w], p.length - 1) := by
        unfold promS
        rw [h1]
        have l1 : p.length - 1 + 1 = p.length := by omega
        simp only [l1]
        rw [if_neg]
        rintro ⟨h3, h4⟩
        rw [getD_of, List.getElem?_append_right (Nat.le_refl _), Nat.sub_self] at h4
        cases e with
        | nil => simp at h3
        | cons x e =>
          have : w = x := h4
          rw [List.nodup_cons] at nd
          exact nd.2.1 (this ▸ h2 x List.mem_cons_self)
      rw [e3]
      have nd' : (c :: ws).Nodup := by
        rw [List.nodup_cons]
        rw [List.nodup_cons] at nd
        exact ⟨fun h => nd.1 (List.mem_cons_of_mem _ h), nd.2.2⟩
      have pw' : (c :: ws).Pairwise (fun x y => ps.contains (y, x) = false) := by
        rw [List.pairwise_cons] at pw2 ⊢
        exact ⟨fun y hy => pw1 y (List.mem_cons_of_mem _ hy), pw2.2⟩
      exact prom_car ps ws p (found ++ [w]) c hp hc nd' pw'
theorem Lin.pw {n : Int} {ps : List (Int × Int)} {r : List Int} (L : Lin n ps r) : r.Pairwise (fun x y => ps.contains (y, x) = false) := by
  rw [List.pairwise_iff_getElem]
  intro i j hi hj hij
  cases hc : ps.contains (r[j], r[i]) with
  | false => rfl
  | true =>
    obtain ⟨p, q, hpq, h1, h2⟩ := L.ext _ _ (by simpa using hc)
    have := nd_inj L.nd h1 (List.getElem?_eq_getElem hj)
    have := nd_inj L.nd h2 (List.getElem?_eq_getElem hi)
    omega
theorem prom_along {n : Int} {ps : List (Int × Int)} {r : List Int} (L : Lin n ps r) : promR ps r = alongR ps r (List.range (r.length - 1)) := by
  cases r with
  | nil => exact absurd L.pos (by simp)
  | cons c ws =>
    obtain ⟨h1, h2⟩ := prom_car ps ws [c] [] c (by simp) rfl L.nd L.pw
    have h3 := along_car ps ws [] c
    have e : List.range ((c :: ws).length - 1) = List.range' ([] : List Int).length ws.length := by rw [List.range_eq_range']; rfl
    rw [e]
    show _ = alongR ps ([] ++ c :: ws) _
    rw [h3]
    unfold promR pathR
    simp only [List.drop_succ_cons, List.drop_zero, List.take_succ_cons, List.take_zero]
    simp only [List.length_cons, List.length_nil] at h1
    rw [← h1, h2]
/-! _law_some_list -/
section
variable (n : Int) (ps : List (Int × Int)) (q : List Int)
theorem ahd_turns (x3 x6 : Option (Bool × D)) : ∀ (xs : List (Int × Int)) (acc : List D) (y4 y5 : Option (Bool × D)) (s : Sr), ∃ z4 z5, turns (cTurn cf [4, 5] (.tp [.nm 4, .nm 5]) [.bi (.cmp .notin) [.bor 4, .bor 2]] (.var 5)) (xs.map pr) acc [some (false, .src), some (false, ordD n ps), some (false, rowD q), x3, y4, y5, x6] s = some (acc.reverse ++ ((xs.filter fun p => !q.contains p.1).map fun p => p.2).map .int, [some (false, .src), some (false, ordD n ps), some (false, rowD q), x3, z4, z5, x6], s)
  | [], acc, y4, y5, s => ⟨y4, y5, by simp only [List.map_nil, List.filter_nil, List.append_nil]; rfl⟩
  | p :: xs, acc, y4, y5, s => by
    have hc : cTurn cf [4, 5] (.tp [.nm 4, .nm 5]) [.bi (.cmp .notin) [.bor 4, .bor 2]] (.var 5) (pr p) [some (false, .src), some (false, ordD n ps), some (false, rowD q), x3, y4, y5, x6] s = some (if q.contains p.1 then none else some (.int p.2), [some (false, .src), some (false, ordD n ps), some (false, rowD q), x3, some (false, .int p.1), some (false, .int p.2), x6], s) := by
      rw [c_turn]
      show (bindT (.tp [.nm 4, .nm 5]) (pr p) [some (false, .src), some (false, ordD n ps), some (false, rowD q), x3, none, none, x6]).bind _ = _
      simp only [bindT.eq_2, bindTs]
      rw [bind_nm (fun d h => by cases h)]
      simp only
      rw [bind_nm (fun d h => by simp at h)]
      simp only [run_f, s_st, s_nil', k_nx, k_rt, k_bk, k_ct, m_asg, m_asgO, m_asgT, m_par, m_set, m_app, m_expr, m_ite, m_for, m_ret, m_sput, m_sfill, v_var, v_bor, v_int, v_bl, v_str, v_non, v_sget, v_not, v_and, v_or, v_ife, v_tup, v_lst, v_dnew, v_call, v_bi, v_comp, o_nil', o_bor, e_nil, e_star, t_nil', t_ex, c_turn, asB, asI, isSrc, outR, bindT, bindTs, putsE, fr, szLine, List.length_cons, List.length_nil, List.map_cons, List.map_nil, List.cons_append, List.nil_append, List.append_nil, List.getElem?_cons_zero, List.getElem?_cons_succ, List.set_cons_zero, List.set_cons_succ, List.replicate_zero, List.replicate_succ, List.getD_cons_zero, Nat.reduceSub, Nat.reduceAdd, Option.bind_some, Option.bind_none, Option.map_some, if_true, if_false, Bool.and_true, Bool.true_and, Bool.not_true, Bool.not_false, Bool.or_true, Bool.true_or, Bool.false_or, Bool.or_false, Bool.and_false, Bool.false_and, Bool.and_self, Bool.or_self, Bool.false_eq_true, startE, reduceCtorEq, List.contains_nil, List.contains_cons, Nat.reduceBEq, ite_self, Nat.reduceLeDiff, Nat.reduceEqDiff, Int.reduceLE, Int.reduceLT, Int.reduceNeg, Int.reduceAdd, Int.reduceSub, ↓reduceIte, decide_true, decide_false, true_or, or_true, or_false, false_or, or_self, not_true_eq_false, not_false_eq_true, if_true, itemsL_, itemsT_, o_var_, e_var_, o_mv_, e_mv_, o_rel_, e_rel_, o_int_, e_int_, o_bl_, e_bl_, o_str_, e_str_, o_non_, e_non_, o_not_, e_not_, o_and_, e_and_, o_or_, e_or_, o_ife_, e_ife_, o_tup_, e_tup_, o_lst_, e_lst_, o_dnew_, e_dnew_, o_call_, e_call_, o_bi_, e_bi_, o_pop_, e_pop_, o_popAt_, e_popAt_, o_sget_, e_sget_, o_comp_, e_comp_, e_bor_, b_add_, b_addT_, b_addL_, b_sub_, b_mod_, b_fdiv_, b_cmp_, b_neg_, b_idxL_, b_idxT_, b_idxD_, b_slcTt_, b_slcTf_, b_slcLt_, b_slcLf_, b_revL_, b_lenL_, b_lenT_, b_abs_, b_toint_, b_totupL_, b_totupT_, b_tolstL_, b_tolstT_, b_repr_, b_lr1_, b_lr2_, b_lr3_, b_clt_, b_cle_, b_cgt_, b_cge_, b_ceq_, b_cne_, b_cin_, b_cni_, b_badbin_, b_badcmp_, b_wseqL_, b_wseqT_, b_wr1_, b_wr2_, b_wr3_, b_wenL_, b_wenT_, bad_neg_, bad_idx_, bad_rev_, bad_cnt_, bad_len_, bad_sum_, bad_max1_, bad_min1_, bad_max2_, bad_min2_, bad_abs_, bad_toint_, bad_totup_, bad_tolst_, bad_sorted_, bad_repr_, bad_mint_, bad_any_, bad_all_, bad_lrange1_, bad_lrange2_, bad_lrange3_, bad_slc_, bad_dict_, bad_ixL_, bad_ixT_, p20, p21, p10, p30, p31, p32, rd0_, rv0_, ro0_, rl0_, rd1_, rv1_, ro1_, rl1_, rd2_, rv2_, ro2_, rl2_, rd3_, rv3_, ro3_, rl3_, rd4_, rv4_, ro4_, rl4_, rd5_, rv5_, ro5_, rl5_, rd6_, rv6_, ro6_, rl6_, rd7_, rv7_, ro7_, rl7_, rd8_, rv8_, ro8_, rl8_, rd9_, rv9_, ro9_, rl9_, rd10_, rv10_, ro10_, rl10_, rd11_, rv11_, ro11_, rl11_, rd12_, rv12_, ro12_, rl12_, rd13_, rv13_, ro13_, rl13_, rd14_, rv14_, ro14_, rl14_, rd15_, rv15_, ro15_, rl15_, rd16_, rv16_, ro16_, rl16_, rd17_, rv17_, ro17_, rl17_, in_intT]
      cases q.contains p.1 <;> simp only [run_f, s_st, s_nil', k_nx, k_rt, k_bk, k_ct, m_asg, m_asgO, m_asgT, m_par, m_set, m_app, m_expr, m_ite, m_for, m_ret, m_sput, m_sfill, v_var, v_bor, v_int, v_bl, v_str, v_non, v_sget, v_not, v_and, v_or, v_ife, v_tup, v_lst, v_dnew, v_call, v_bi, v_comp, o_nil', o_bor, e_nil, e_star, t_nil', t_ex, c_turn, asB, asI, isSrc, outR, bindT, bindTs, putsE, fr, szLine, List.length_cons, List.length_nil, List.map_cons, List.map_nil, List.cons_append, List.nil_append, List.append_nil, List.getElem?_cons_zero, List.getElem?_cons_succ, List.set_cons_zero, List.set_cons_succ, List.replicate_zero, List.replicate_succ, List.getD_cons_zero, Nat.reduceSub, Nat.reduceAdd, Option.bind_some, Option.bind_none, Option.map_some, if_true, if_false, Bool.and_true, Bool.true_and, Bool.not_true, Bool.not_false, Bool.or_true, Bool.true_or, Bool.false_or, Bool.or_false, Bool.and_false, Bool.false_and, Bool.and_self, Bool.or_self, Bool.false_eq_true, startE, reduceCtorEq, List.contains_nil, List.contains_cons, Nat.reduceBEq, ite_self, Nat.reduceLeDiff, Nat.reduceEqDiff, Int.reduceLE, Int.reduceLT, Int.reduceNeg, Int.reduceAdd, Int.reduceSub, ↓reduceIte, decide_true, decide_false, true_or, or_true, or_false, false_or, or_self, not_true_eq_false, not_false_eq_true, if_true, itemsL_, itemsT_, o_var_, e_var_, o_mv_, e_mv_, o_rel_, e_rel_, o_int_, e_int_, o_bl_, e_bl_, o_str_, e_str_, o_non_, e_non_, o_not_, e_not_, o_and_, e_and_, o_or_, e_or_, o_ife_, e_ife_, o_tup_, e_tup_, o_lst_, e_lst_, o_dnew_, e_dnew_, o_call_, e_call_, o_bi_, e_bi_, o_pop_, e_pop_, o_popAt_, e_popAt_, o_sget_, e_sget_, o_comp_, e_comp_, e_bor_, b_add_, b_addT_, b_addL_, b_sub_, b_mod_, b_fdiv_, b_cmp_, b_neg_, b_idxL_, b_idxT_, b_idxD_, b_slcTt_, b_slcTf_, b_slcLt_, b_slcLf_, b_revL_, b_lenL_, b_lenT_, b_abs_, b_toint_, b_totupL_, b_totupT_, b_tolstL_, b_tolstT_, b_repr_, b_lr1_, b_lr2_, b_lr3_, b_clt_, b_cle_, b_cgt_, b_cge_, b_ceq_, b_cne_, b_cin_, b_cni_, b_badbin_, b_badcmp_, b_wseqL_, b_wseqT_, b_wr1_, b_wr2_, b_wr3_, b_wenL_, b_wenT_, bad_neg_, bad_idx_, bad_rev_, bad_cnt_, bad_len_, bad_sum_, bad_max1_, bad_min1_, bad_max2_, bad_min2_, bad_abs_, bad_toint_, bad_totup_, bad_tolst_, bad_sorted_, bad_repr_, bad_mint_, bad_any_, bad_all_, bad_lrange1_, bad_lrange2_, bad_lrange3_, bad_slc_, bad_dict_, bad_ixL_, bad_ixT_, p20, p21, p10, p30, p31, p32, rd0_, rv0_, ro0_, rl0_, rd1_, rv1_, ro1_, rl1_, rd2_, rv2_, ro2_, rl2_, rd3_, rv3_, ro3_, rl3_, rd4_, rv4_, ro4_, rl4_, rd5_, rv5_, ro5_, rl5_, rd6_, rv6_, ro6_, rl6_, rd7_, rv7_, ro7_, rl7_, rd8_, rv8_, ro8_, rl8_, rd9_, rv9_, ro9_, rl9_, rd10_, rv10_, ro10_, rl10_, rd11_, rv11_, ro11_, rl11_, rd12_, rv12_, ro12_, rl12_, rd13_, rv13_, ro13_, rl13_, rd14_, rv14_, ro14_, rl14_, rd15_, rv15_, ro15_, rl15_, rd16_, rv16_, ro16_, rl16_, rd17_, rv17_, ro17_, rl17_]
    cases hx : q.contains p.1 with
    | true =>
      rw [hx] at hc
      obtain ⟨z4, z5, ih⟩ := ahd_turns x3 x6 xs acc (some (false, .int p.1)) (some (false, .int p.2)) s
      refine ⟨z4, z5, (tn_no hc).trans (ih.trans ?_)⟩
      rw [List.filter_cons, hx]; rfl
    | false =>
      rw [hx] at hc
      obtain ⟨z4, z5, ih⟩ := ahd_turns x3 x6 xs (.int p.2 :: acc) (some (false, .int p.1)) (some (false, .int p.2)) s
      refine ⟨z4, z5, (tn_yes hc).trans (ih.trans ?_)⟩
      rw [List.filter_cons, hx, List.reverse_cons, List.append_assoc]; rfl
theorem cand_turns (ah : List Int) (x4 x5 : Option (Bool × D)) : ∀ (xs : List Nat) (acc : List D) (y6 : Option (Bool × D)) (s : Sr), ∃ z6, turns (cTurn cf [6] (.nm 6) [.and (.bi (.cmp .notin) [.bor 6, .bor 2]) (.bi (.cmp .notin) [.bor 6, .bor 3])] (.var 6)) (natsD xs) acc [some (false, .src), some (false, ordD n ps), some (false, rowD q), some (false, .lst (ah.map .int)), x4, x5, y6] s = some (acc.reverse ++ ((xs.map fun (i : Nat) => (i : Int)).filter fun w => !q.contains w && !ah.contains w).map .int, [some (false, .src), some (false, ordD n ps), some (false, rowD q), some (false, .lst (ah.map .int)), x4, x5, z6], s)
  | [], acc, y6, s => ⟨y6, by simp only [natsD, List.map_nil, List.filter_nil, List.append_nil]; rfl⟩
  | w :: xs, acc, y6, s => by
    have hc : cTurn cf [6] (.nm 6) [.and (.bi (.cmp .notin) [.bor 6, .bor 2]) (.bi (.cmp .notin) [.bor 6, .bor 3])] (.var 6) (.int (w : Int)) [some (false, .src), some (false, ordD n ps), some (false, rowD q), some (false, .lst (ah.map .int)), x4, x5, y6] s = some (if !q.contains (w : Int) && !ah.contains (w : Int) then some (.int (w : Int)) else none, [some (false, .src), some (false, ordD n ps), some (false, rowD q), some (false, .lst (ah.map .int)), x4, x5, some (false, .int (w : Int))], s) := by
      rw [c_turn]
      show (bindT (.nm 6) (.int (w : Int)) [some (false, .src), some (false, ordD n ps), some (false, rowD q), some (false, .lst (ah.map .int)), x4, x5, none]).bind _ = _
      rw [bind_nm (fun d h => by cases h)]
      cases h1 : q.contains (w : Int) <;> cases h2 : ah.contains (w : Int) <;> simp only [run_f, s_st, s_nil', k_nx, k_rt, k_bk, k_ct, m_asg, m_asgO, m_asgT, m_par, m_set, m_app, m_expr, m_ite, m_for, m_ret, m_sput, m_sfill, v_var, v_bor, v_int, v_bl, v_str, v_non, v_sget, v_not, v_and, v_or, v_ife, v_tup, v_lst, v_dnew, v_call, v_bi, v_comp, o_nil', o_bor, e_nil, e_star, t_nil', t_ex, c_turn, asB, asI, isSrc, outR, bindT, bindTs, putsE, fr, szLine, List.length_cons, List.length_nil, List.map_cons, List.map_nil, List.cons_append, List.nil_append, List.append_nil, List.getElem?_cons_zero, List.getElem?_cons_succ, List.set_cons_zero, List.set_cons_succ, List.replicate_zero, List.replicate_succ, List.getD_cons_zero, Nat.reduceSub, Nat.reduceAdd, Option.bind_some, Option.bind_none, Option.map_some, if_true, if_false, Bool.and_true, Bool.true_and, Bool.not_true, Bool.not_false, Bool.or_true, Bool.true_or, Bool.false_or, Bool.or_false, Bool.and_false, Bool.false_and, Bool.and_self, Bool.or_self, Bool.false_eq_true, startE, reduceCtorEq, List.contains_nil, List.contains_cons, Nat.reduceBEq, ite_self, Nat.reduceLeDiff, Nat.reduceEqDiff, Int.reduceLE, Int.reduceLT, Int.reduceNeg, Int.reduceAdd, Int.reduceSub, ↓reduceIte, decide_true, decide_false, true_or, or_true, or_false, false_or, or_self, not_true_eq_false, not_false_eq_true, if_true, itemsL_, itemsT_, o_var_, e_var_, o_mv_, e_mv_, o_rel_, e_rel_, o_int_, e_int_, o_bl_, e_bl_, o_str_, e_str_, o_non_, e_non_, o_not_, e_not_, o_and_, e_and_, o_or_, e_or_, o_ife_, e_ife_, o_tup_, e_tup_, o_lst_, e_lst_, o_dnew_, e_dnew_, o_call_, e_call_, o_bi_, e_bi_, o_pop_, e_pop_, o_popAt_, e_popAt_, o_sget_, e_sget_, o_comp_, e_comp_, e_bor_, b_add_, b_addT_, b_addL_, b_sub_, b_mod_, b_fdiv_, b_cmp_, b_neg_, b_idxL_, b_idxT_, b_idxD_, b_slcTt_, b_slcTf_, b_slcLt_, b_slcLf_, b_revL_, b_lenL_, b_lenT_, b_abs_, b_toint_, b_totupL_, b_totupT_, b_tolstL_, b_tolstT_, b_repr_, b_lr1_, b_lr2_, b_lr3_, b_clt_, b_cle_, b_cgt_, b_cge_, b_ceq_, b_cne_, b_cin_, b_cni_, b_badbin_, b_badcmp_, b_wseqL_, b_wseqT_, b_wr1_, b_wr2_, b_wr3_, b_wenL_, b_wenT_, bad_neg_, bad_idx_, bad_rev_, bad_cnt_, bad_len_, bad_sum_, bad_max1_, bad_min1_, bad_max2_, bad_min2_, bad_abs_, bad_toint_, bad_totup_, bad_tolst_, bad_sorted_, bad_repr_, bad_mint_, bad_any_, bad_all_, bad_lrange1_, bad_lrange2_, bad_lrange3_, bad_slc_, bad_dict_, bad_ixL_, bad_ixT_, p20, p21, p10, p30, p31, p32, rd0_, rv0_, ro0_, rl0_, rd1_, rv1_, ro1_, rl1_, rd2_, rv2_, ro2_, rl2_, rd3_, rv3_, ro3_, rl3_, rd4_, rv4_, ro4_, rl4_, rd5_, rv5_, ro5_, rl5_, rd6_, rv6_, ro6_, rl6_, rd7_, rv7_, ro7_, rl7_, rd8_, rv8_, ro8_, rl8_, rd9_, rv9_, ro9_, rl9_, rd10_, rv10_, ro10_, rl10_, rd11_, rv11_, ro11_, rl11_, rd12_, rv12_, ro12_, rl12_, rd13_, rv13_, ro13_, rl13_, rd14_, rv14_, ro14_, rl14_, rd15_, rv15_, ro15_, rl15_, rd16_, rv16_, ro16_, rl16_, rd17_, rv17_, ro17_, rl17_, in_intT, in_intL, h1, h2]
    cases hx : (!q.contains (w : Int) && !ah.contains (w : Int)) with
    | false =>
      rw [hx] at hc
      obtain ⟨z6, ih⟩ := cand_turns ah x4 x5 xs acc (some (false, .int w)) s
      refine ⟨z6, (tn_no hc).trans (ih.trans ?_)⟩
      rw [List.map_cons, List.filter_cons, hx]; rfl
    | true =>
      rw [hx] at hc
      obtain ⟨z6, ih⟩ := cand_turns ah x4 x5 xs (.int (w : Int) :: acc) (some (false, .int w)) s
      refine ⟨z6, (tn_yes hc).trans (ih.trans ?_)⟩
      rw [List.map_cons, List.filter_cons, hx, List.reverse_cons, List.append_assoc]; rfl
end
def OfOk : Prop := ∀ (l : D) (xs : List D) (s : Sr), D.items l = some xs → xs ≠ [] → xs.length ≤ 1000 → ∃ x s', cf 13 [.src, l] s = some (x, s') ∧ x ∈ xs ∧ s'.fz = s.fz
/-- a part of a list that keeps the order -/
structure Part (n : Int) (ps : List (Int × Int)) (q : List Int) : Prop where
  nd : q.Nodup
  mem : ∀ w ∈ q, 0 ≤ w ∧ w < n
  ext : ∀ a b, (a, b) ∈ ps → b ∈ q → ∃ i j : Nat, i < j ∧ q[i]? = some a ∧ q[j]? = some b
def candL (m : Nat) (ps : List (Int × Int)) (q : List Int) : List Int := ((List.range m).map fun (i : Nat) => (i : Int)).filter fun w => !q.contains w && !((ps.filter fun p => !q.contains p.1).map fun p => p.2).contains w
theorem cand_ne {m : Nat} {ps : List (Int × Int)} {q R : List Int} (L : Lin m ps R) (P : Part m ps q) (hq : q.length < m) : candL m ps q ≠ [] := by
  have hR : R.length = m := by have := L.len; omega
  -- the first of R that is not there
  have ex : ∃ w ∈ R, w ∉ q := Classical.byContradiction fun h => by
    have := nd_sub (m := q) L.nd fun x hx => Classical.byContradiction fun hn => h ⟨x, hx, hn⟩
    omega
  have first : ∀ (l : List Int), (∃ w ∈ l, w ∉ q) → ∃ (k : Nat) (w : Int), l[k]? = some w ∧ w ∉ q ∧ ∀ (j : Nat) (x : Int), j < k → l[j]? = some x → x ∈ q := by
    intro l
    induction l with
    | nil => rintro ⟨w, h, _⟩; cases h
    | cons y l ih =>
      rintro ⟨w, hw, hn⟩
      by_cases hy : y ∈ q
      · have hw' : w ∈ l := (List.mem_cons.mp hw).resolve_left fun e => hn (e ▸ hy)
        obtain ⟨k, v, h1, h2, h3⟩ := ih ⟨w, hw', hn⟩
        refine ⟨k + 1, v, by simpa using h1, h2, fun j x hj hx => ?_⟩
        cases j with
        | zero => simp at hx; rw [← hx]; exact hy
        | succ j => exact h3 j x (by omega) (by simpa using hx)
      · exact ⟨0, y, rfl, hy, fun j x hj _ => absurd hj (Nat.not_lt_zero _)⟩
  obtain ⟨k, w, h1, h2, h3⟩ := first R ex
  have hw := (L.mem w).mp (List.mem_of_getElem? h1)
  have hin : w ∈ candL m ps q := by
    unfold candL
    rw [List.mem_filter]
    refine ⟨List.mem_map.mpr ⟨w.toNat, by rw [List.mem_range]; omega, by omega⟩, ?_⟩
    rw [Bool.and_eq_true]
    refine ⟨by simpa using h2, ?_⟩
    rw [Bool.not_eq_true', ← Bool.not_eq_true, List.contains_iff_mem]
    intro hm
    obtain ⟨p, hp, e⟩ := List.mem_map.mp hm
    obtain ⟨hp1, hp2⟩ := List.mem_filter.mp hp
    obtain ⟨i, j, hij, e1, e2⟩ := L.ext p.1 p.2 hp1
    have e2 : R[j]? = some w := by rw [e2, ← e]
    have hjk := nd_inj L.nd e2 h1
    have := h3 i p.1 (by omega) e1
    simp at hp2
    exact hp2 this
  intro e
  rw [e] at hin
  cases hin
theorem part_step {m : Nat} {ps : List (Int × Int)} {q : List Int} (P : Part m ps q) {x : Int} (hx : x ∈ candL m ps q) : Part m ps (q ++ [x]) := by
  unfold candL at hx
  rw [List.mem_filter, Bool.and_eq_true] at hx
  obtain ⟨h1, h2, h3⟩ := hx
  obtain ⟨i, hi, e⟩ := List.mem_map.mp h1
  rw [List.mem_range] at hi
  have hn : x ∉ q := by simpa using h2
  have key : ∀ a, (a, x) ∈ ps → a ∈ q := fun a ha => Classical.byContradiction fun hna => by
    rw [Bool.not_eq_true', ← Bool.not_eq_true, List.contains_iff_mem] at h3
    exact h3 (List.mem_map.mpr ⟨(a, x), List.mem_filter.mpr ⟨ha, by simpa using hna⟩, rfl⟩)
  refine ⟨?_, fun w hw => ?_, fun a b hab hb => ?_⟩
  · rw [List.nodup_append]
    exact ⟨P.nd, by simp, fun y hy z hz e => by rw [List.mem_singleton] at hz; rw [e, hz] at hy; exact hn hy⟩
  · rcases List.mem_append.mp hw with hw | hw
    · exact P.mem w hw
    · rw [List.mem_singleton] at hw; omega
  · rcases List.mem_append.mp hb with hb | hb
    · obtain ⟨i, j, hij, e1, e2⟩ := P.ext a b hab hb
      have l1 := (List.getElem?_eq_some_iff.mp e1).1
      have l2 := (List.getElem?_eq_some_iff.mp e2).1
      exact ⟨i, j, hij, by rw [List.getElem?_append_left l1]; exact e1, by rw [List.getElem?_append_left l2]; exact e2⟩
    · rw [List.mem_singleton] at hb
      subst hb
      obtain ⟨i, hi⟩ := List.getElem?_of_mem (key a hab)
      have l1 := (List.getElem?_eq_some_iff.mp hi).1
      exact ⟨i, q.length, l1, by rw [List.getElem?_append_left l1]; exact hi, by rw [List.getElem?_append_right (Nat.le_refl _), Nat.sub_self]; rfl⟩
theorem part_end {m : Nat} {ps : List (Int × Int)} {q R : List Int} (L : Lin m ps R) (P : Part m ps q) (hq : q.length = m) : Lin m ps q := by
  have hR : R.length = m := by have := L.len; omega
  have all : ∀ w, 0 ≤ w ∧ w < (m : Int) → w ∈ q := fun w hw => Classical.byContradiction fun hn => by
    have := nd_sub (l := w :: q) (m := R) (List.nodup_cons.mpr ⟨hn, P.nd⟩) fun y hy => (List.mem_cons.mp hy).elim (fun e => by rw [e]; exact (L.mem w).mpr hw) fun h => (L.mem y).mpr (P.mem y h)
    rw [List.length_cons] at this
    omega
  exact ⟨by omega, by have := L.pos; omega, by have := L.small; omega, P.nd, fun w => ⟨P.mem w, all w⟩, fun a b hab => P.ext a b hab (all b ((L.mem b).mp (L.pm (a, b) hab).2))⟩
abbrev bSome : List Sm := [.asg 3 (.comp [4, 5] (.tp [.nm 4, .nm 5]) .seq [.bi .idx [.bor 1, .int 1]] [.bi (.cmp .notin) [.bor 4, .bor 2]] (.var 5)), .asg 2 (.bi (.bin .add) [.bor 2, .tup [.call 13 false [.var 0, .comp [6] (.nm 6) .rng1 [.bi .idx [.bor 1, .int 0]] [.and (.bi (.cmp .notin) [.bor 6, .bor 2]) (.bi (.cmp .notin) [.bor 6, .bor 3])] (.var 6)]]])]
theorem some_step (ho : OfOk cf) {m : Nat} {ps : List (Int × Int)} {q R : List Int} (L : Lin m ps R) (P : Part m ps q) (hq : q.length < m) (x3 : Option (Bool × D)) (ff : Bool) (s : Sr) :
    ∃ x y3 s', evSs cf ff F bSome [some (false, .src), some (false, ordD m ps), some (false, rowD q), x3, none, none, none] s = some (.nx [some (false, .src), some (false, ordD m ps), some (false, rowD (q ++ [x])), y3, none, none, none] s') ∧ x ∈ candL m ps q ∧ s'.fz = s.fz := by
  have hm : m ≤ 100 := by have h1 := L.len; have h2 := L.small; omega
  obtain ⟨z4, z5, t1⟩ := ahd_turns cf m ps q x3 none ps [] none none s
  let ah := (ps.filter fun p => !q.contains p.1).map fun p => p.2
  obtain ⟨z6, t2⟩ := cand_turns cf m ps q ah none none (List.range m) [] none s
  have hne := cand_ne L P hq
  obtain ⟨d, s', e, hd, fz⟩ := ho (.lst ((candL m ps q).map .int)) _ s rfl (fun h => hne (by simpa using h)) (by
    rw [List.length_map]
    unfold candL
    refine Nat.le_trans (List.length_filter_le _ _) ?_
    rw [List.length_map, List.length_range]; omega)
  obtain ⟨x, hx, rfl⟩ := List.mem_map.mp hd
  refine ⟨x, some (false, .lst (ah.map .int)), s', ?_, hx, fz⟩
  have n1 : noOwn [4, 5] [some (false, .src), some (false, ordD m ps), some (false, rowD q), x3, none, none, none] = true := rfl
  have n2 : ∀ y, noOwn [6] [some (false, .src), some (false, ordD m ps), some (false, rowD q), y, none, none, none] = true := fun y => rfl
  have b1 : ∀ y4 y5, backE [4, 5] [some (false, .src), some (false, ordD m ps), some (false, rowD q), x3, none, none, none] [some (false, .src), some (false, ordD m ps), some (false, rowD q), x3, y4, y5, none] = [some (false, .src), some (false, ordD m ps), some (false, rowD q), x3, none, none, none] := fun _ _ => rfl
  have b2 : ∀ y y6, backE [6] [some (false, .src), some (false, ordD m ps), some (false, rowD q), y, none, none, none] [some (false, .src), some (false, ordD m ps), some (false, rowD q), y, none, none, y6] = [some (false, .src), some (false, ordD m ps), some (false, rowD q), y, none, none, none] := fun _ _ => rfl
  simp only [List.reverse_nil, List.nil_append] at t1 t2
  have e' : cf 13 [.src, .lst ((((List.range m).map fun (i : Nat) => (i : Int)).filter fun w => !q.contains w && !ah.contains w).map .int)] s = some (.int x, s') := e
  have l1 : (q.map D.int).length ≤ 16777215 := by rw [List.length_map]; omega
  have l2 : q.length ≤ 16777215 := by omega
  have hsum : q.map D.int ++ [D.int x] = (q ++ [x]).map .int := by simp
  simp only [run_f, s_st, s_nil', k_nx, k_rt, k_bk, k_ct, m_asg, m_asgO, m_asgT, m_par, m_set, m_app, m_expr, m_ite, m_for, m_ret, m_sput, m_sfill, v_var, v_bor, v_int, v_bl, v_str, v_non, v_sget, v_not, v_and, v_or, v_ife, v_tup, v_lst, v_dnew, v_call, v_bi, v_comp, o_nil', o_bor, e_nil, e_star, t_nil', t_ex, c_turn, asB, asI, isSrc, outR, bindT, bindTs, putsE, fr, szLine, List.length_cons, List.length_nil, List.map_cons, List.map_nil, List.cons_append, List.nil_append, List.append_nil, List.getElem?_cons_zero, List.getElem?_cons_succ, List.set_cons_zero, List.set_cons_succ, List.replicate_zero, List.replicate_succ, List.getD_cons_zero, Nat.reduceSub, Nat.reduceAdd, Option.bind_some, Option.bind_none, Option.map_some, if_true, if_false, Bool.and_true, Bool.true_and, Bool.not_true, Bool.not_false, Bool.or_true, Bool.true_or, Bool.false_or, Bool.or_false, Bool.and_false, Bool.false_and, Bool.and_self, Bool.or_self, Bool.false_eq_true, startE, reduceCtorEq, List.contains_nil, List.contains_cons, Nat.reduceBEq, ite_self, Nat.reduceLeDiff, Nat.reduceEqDiff, Int.reduceLE, Int.reduceLT, Int.reduceNeg, Int.reduceAdd, Int.reduceSub, ↓reduceIte, decide_true, decide_false, true_or, or_true, or_false, false_or, or_self, not_true_eq_false, not_false_eq_true, if_true, itemsL_, itemsT_, o_var_, e_var_, o_mv_, e_mv_, o_rel_, e_rel_, o_int_, e_int_, o_bl_, e_bl_, o_str_, e_str_, o_non_, e_non_, o_not_, e_not_, o_and_, e_and_, o_or_, e_or_, o_ife_, e_ife_, o_tup_, e_tup_, o_lst_, e_lst_, o_dnew_, e_dnew_, o_call_, e_call_, o_bi_, e_bi_, o_pop_, e_pop_, o_popAt_, e_popAt_, o_sget_, e_sget_, o_comp_, e_comp_, e_bor_, b_add_, b_addT_, b_addL_, b_sub_, b_mod_, b_fdiv_, b_cmp_, b_neg_, b_idxL_, b_idxT_, b_idxD_, b_slcTt_, b_slcTf_, b_slcLt_, b_slcLf_, b_revL_, b_lenL_, b_lenT_, b_abs_, b_toint_, b_totupL_, b_totupT_, b_tolstL_, b_tolstT_, b_repr_, b_lr1_, b_lr2_, b_lr3_, b_clt_, b_cle_, b_cgt_, b_cge_, b_ceq_, b_cne_, b_cin_, b_cni_, b_badbin_, b_badcmp_, b_wseqL_, b_wseqT_, b_wr1_, b_wr2_, b_wr3_, b_wenL_, b_wenT_, bad_neg_, bad_idx_, bad_rev_, bad_cnt_, bad_len_, bad_sum_, bad_max1_, bad_min1_, bad_max2_, bad_min2_, bad_abs_, bad_toint_, bad_totup_, bad_tolst_, bad_sorted_, bad_repr_, bad_mint_, bad_any_, bad_all_, bad_lrange1_, bad_lrange2_, bad_lrange3_, bad_slc_, bad_dict_, bad_ixL_, bad_ixT_, p20, p21, p10, p30, p31, p32, rd0_, rv0_, ro0_, rl0_, rd1_, rv1_, ro1_, rl1_, rd2_, rv2_, ro2_, rl2_, rd3_, rv3_, ro3_, rl3_, rd4_, rv4_, ro4_, rl4_, rd5_, rv5_, ro5_, rl5_, rd6_, rv6_, ro6_, rl6_, rd7_, rv7_, ro7_, rl7_, rd8_, rv8_, ro8_, rl8_, rd9_, rv9_, ro9_, rl9_, rd10_, rv10_, ro10_, rl10_, rd11_, rv11_, ro11_, rl11_, rd12_, rv12_, ro12_, rl12_, rd13_, rv13_, ro13_, rl13_, rd14_, rv14_, ro14_, rl14_, rd15_, rv15_, ro15_, rl15_, rd16_, rv16_, ro16_, rl16_, rd17_, rv17_, ro17_, rl17_, n1, t1, b1, range_up (show m ≤ 1000 by omega), n2]
  simp only [ah] at t2 e'
  simp only [run_f, s_st, s_nil', k_nx, k_rt, k_bk, k_ct, m_asg, m_asgO, m_asgT, m_par, m_set, m_app, m_expr, m_ite, m_for, m_ret, m_sput, m_sfill, v_var, v_bor, v_int, v_bl, v_str, v_non, v_sget, v_not, v_and, v_or, v_ife, v_tup, v_lst, v_dnew, v_call, v_bi, v_comp, o_nil', o_bor, e_nil, e_star, t_nil', t_ex, c_turn, asB, asI, isSrc, outR, bindT, bindTs, putsE, fr, szLine, List.length_cons, List.length_nil, List.map_cons, List.map_nil, List.cons_append, List.nil_append, List.append_nil, List.getElem?_cons_zero, List.getElem?_cons_succ, List.set_cons_zero, List.set_cons_succ, List.replicate_zero, List.replicate_succ, List.getD_cons_zero, Nat.reduceSub, Nat.reduceAdd, Option.bind_some, Option.bind_none, Option.map_some, if_true, if_false, Bool.and_true, Bool.true_and, Bool.not_true, Bool.not_false, Bool.or_true, Bool.true_or, Bool.false_or, Bool.or_false, Bool.and_false, Bool.false_and, Bool.and_self, Bool.or_self, Bool.false_eq_true, startE, reduceCtorEq, List.contains_nil, List.contains_cons, Nat.reduceBEq, ite_self, Nat.reduceLeDiff, Nat.reduceEqDiff, Int.reduceLE, Int.reduceLT, Int.reduceNeg, Int.reduceAdd, Int.reduceSub, ↓reduceIte, decide_true, decide_false, true_or, or_true, or_false, false_or, or_self, not_true_eq_false, not_false_eq_true, if_true, itemsL_, itemsT_, o_var_, e_var_, o_mv_, e_mv_, o_rel_, e_rel_, o_int_, e_int_, o_bl_, e_bl_, o_str_, e_str_, o_non_, e_non_, o_not_, e_not_, o_and_, e_and_, o_or_, e_or_, o_ife_, e_ife_, o_tup_, e_tup_, o_lst_, e_lst_, o_dnew_, e_dnew_, o_call_, e_call_, o_bi_, e_bi_, o_pop_, e_pop_, o_popAt_, e_popAt_, o_sget_, e_sget_, o_comp_, e_comp_, e_bor_, b_add_, b_addT_, b_addL_, b_sub_, b_mod_, b_fdiv_, b_cmp_, b_neg_, b_idxL_, b_idxT_, b_idxD_, b_slcTt_, b_slcTf_, b_slcLt_, b_slcLf_, b_revL_, b_lenL_, b_lenT_, b_abs_, b_toint_, b_totupL_, b_totupT_, b_tolstL_, b_tolstT_, b_repr_, b_lr1_, b_lr2_, b_lr3_, b_clt_, b_cle_, b_cgt_, b_cge_, b_ceq_, b_cne_, b_cin_, b_cni_, b_badbin_, b_badcmp_, b_wseqL_, b_wseqT_, b_wr1_, b_wr2_, b_wr3_, b_wenL_, b_wenT_, bad_neg_, bad_idx_, bad_rev_, bad_cnt_, bad_len_, bad_sum_, bad_max1_, bad_min1_, bad_max2_, bad_min2_, bad_abs_, bad_toint_, bad_totup_, bad_tolst_, bad_sorted_, bad_repr_, bad_mint_, bad_any_, bad_all_, bad_lrange1_, bad_lrange2_, bad_lrange3_, bad_slc_, bad_dict_, bad_ixL_, bad_ixT_, p20, p21, p10, p30, p31, p32, rd0_, rv0_, ro0_, rl0_, rd1_, rv1_, ro1_, rl1_, rd2_, rv2_, ro2_, rl2_, rd3_, rv3_, ro3_, rl3_, rd4_, rv4_, ro4_, rl4_, rd5_, rv5_, ro5_, rl5_, rd6_, rv6_, ro6_, rl6_, rd7_, rv7_, ro7_, rl7_, rd8_, rv8_, ro8_, rl8_, rd9_, rv9_, ro9_, rl9_, rd10_, rv10_, ro10_, rl10_, rd11_, rv11_, ro11_, rl11_, rd12_, rv12_, ro12_, rl12_, rd13_, rv13_, ro13_, rl13_, rd14_, rv14_, ro14_, rl14_, rd15_, rv15_, ro15_, rl15_, rd16_, rv16_, ro16_, rl16_, rd17_, rv17_, ro17_, rl17_, t2, b2, e', l1, l2, hsum, List.length_map]
  rfl
theorem some_loop (ho : OfOk cf) {m : Nat} {ps : List (Int × Int)} {R : List Int} (L : Lin m ps R) (ff : Bool) : ∀ (k fuel : Nat) (q : List Int) (x3 : Option (Bool × D)) (s : Sr), m - q.length ≤ k → k < fuel → Part m ps q → q.length ≤ m →
    ∃ q' y3 s', whlT (wC cf (.bi (.cmp .lt) [.bi .len [.bor 2], .bi .idx [.bor 1, .int 0]])) (wB cf ff F bSome) fuel [some (false, .src), some (false, ordD m ps), some (false, rowD q), x3, none, none, none] s = some (.nx [some (false, .src), some (false, ordD m ps), some (false, rowD q'), y3, none, none, none] s') ∧ Lin m ps q' ∧ s'.fz = s.fz
  | k, fuel, q, x3, s, hk, hf, P, hq => by
    obtain ⟨f, rfl⟩ : ∃ f, fuel = f + 1 := ⟨fuel - 1, by omega⟩
    have hcond : wC cf (.bi (.cmp .lt) [.bi .len [.bor 2], .bi .idx [.bor 1, .int 0]]) [some (false, .src), some (false, ordD m ps), some (false, rowD q), x3, none, none, none] s = some (.bl (decide (q.length < m)), [some (false, .src), some (false, ordD m ps), some (false, rowD q), x3, none, none, none], s) := by
      have e : decide (((q.length : Nat) : Int) < (m : Int)) = decide (q.length < m) := by rw [decide_eq_decide]; omega
      unfold wC
      simp only [run_f, s_st, s_nil', k_nx, k_rt, k_bk, k_ct, m_asg, m_asgO, m_asgT, m_par, m_set, m_app, m_expr, m_ite, m_for, m_ret, m_sput, m_sfill, v_var, v_bor, v_int, v_bl, v_str, v_non, v_sget, v_not, v_and, v_or, v_ife, v_tup, v_lst, v_dnew, v_call, v_bi, v_comp, o_nil', o_bor, e_nil, e_star, t_nil', t_ex, c_turn, asB, asI, isSrc, outR, bindT, bindTs, putsE, fr, szLine, List.length_cons, List.length_nil, List.map_cons, List.map_nil, List.cons_append, List.nil_append, List.append_nil, List.getElem?_cons_zero, List.getElem?_cons_succ, List.set_cons_zero, List.set_cons_succ, List.replicate_zero, List.replicate_succ, List.getD_cons_zero, Nat.reduceSub, Nat.reduceAdd, Option.bind_some, Option.bind_none, Option.map_some, if_true, if_false, Bool.and_true, Bool.true_and, Bool.not_true, Bool.not_false, Bool.or_true, Bool.true_or, Bool.false_or, Bool.or_false, Bool.and_false, Bool.false_and, Bool.and_self, Bool.or_self, Bool.false_eq_true, startE, reduceCtorEq, List.contains_nil, List.contains_cons, Nat.reduceBEq, ite_self, Nat.reduceLeDiff, Nat.reduceEqDiff, Int.reduceLE, Int.reduceLT, Int.reduceNeg, Int.reduceAdd, Int.reduceSub, ↓reduceIte, decide_true, decide_false, true_or, or_true, or_false, false_or, or_self, not_true_eq_false, not_false_eq_true, if_true, itemsL_, itemsT_, o_var_, e_var_, o_mv_, e_mv_, o_rel_, e_rel_, o_int_, e_int_, o_bl_, e_bl_, o_str_, e_str_, o_non_, e_non_, o_not_, e_not_, o_and_, e_and_, o_or_, e_or_, o_ife_, e_ife_, o_tup_, e_tup_, o_lst_, e_lst_, o_dnew_, e_dnew_, o_call_, e_call_, o_bi_, e_bi_, o_pop_, e_pop_, o_popAt_, e_popAt_, o_sget_, e_sget_, o_comp_, e_comp_, e_bor_, b_add_, b_addT_, b_addL_, b_sub_, b_mod_, b_fdiv_, b_cmp_, b_neg_, b_idxL_, b_idxT_, b_idxD_, b_slcTt_, b_slcTf_, b_slcLt_, b_slcLf_, b_revL_, b_lenL_, b_lenT_, b_abs_, b_toint_, b_totupL_, b_totupT_, b_tolstL_, b_tolstT_, b_repr_, b_lr1_, b_lr2_, b_lr3_, b_clt_, b_cle_, b_cgt_, b_cge_, b_ceq_, b_cne_, b_cin_, b_cni_, b_badbin_, b_badcmp_, b_wseqL_, b_wseqT_, b_wr1_, b_wr2_, b_wr3_, b_wenL_, b_wenT_, bad_neg_, bad_idx_, bad_rev_, bad_cnt_, bad_len_, bad_sum_, bad_max1_, bad_min1_, bad_max2_, bad_min2_, bad_abs_, bad_toint_, bad_totup_, bad_tolst_, bad_sorted_, bad_repr_, bad_mint_, bad_any_, bad_all_, bad_lrange1_, bad_lrange2_, bad_lrange3_, bad_slc_, bad_dict_, bad_ixL_, bad_ixT_, p20, p21, p10, p30, p31, p32, rd0_, rv0_, ro0_, rl0_, rd1_, rv1_, ro1_, rl1_, rd2_, rv2_, ro2_, rl2_, rd3_, rv3_, ro3_, rl3_, rd4_, rv4_, ro4_, rl4_, rd5_, rv5_, ro5_, rl5_, rd6_, rv6_, ro6_, rl6_, rd7_, rv7_, ro7_, rl7_, rd8_, rv8_, ro8_, rl8_, rd9_, rv9_, ro9_, rl9_, rd10_, rv10_, ro10_, rl10_, rd11_, rv11_, ro11_, rl11_, rd12_, rv12_, ro12_, rl12_, rd13_, rv13_, ro13_, rl13_, rd14_, rv14_, ro14_, rl14_, rd15_, rv15_, ro15_, rl15_, rd16_, rv16_, ro16_, rl16_, rd17_, rv17_, ro17_, rl17_, List.length_map, e]
    by_cases hlt : q.length < m
    · rw [decide_eq_true hlt] at hcond
      obtain ⟨x, y3, s1, e1, hx, fz1⟩ := some_step cf F ho L P hlt x3 ff s
      have hl : (q ++ [x]).length = q.length + 1 := by simp
      cases k with
      | zero => omega
      | succ k =>
        obtain ⟨q', z3, s', e2, L2, fz2⟩ := some_loop ho L ff k f (q ++ [x]) y3 s1 (by omega) (by omega) (part_step P hx) (by omega)
        exact ⟨q', z3, s', (w_step hcond e1).trans e2, L2, fz2.trans fz1⟩
    · rw [decide_eq_false hlt] at hcond
      exact ⟨q, x3, s, w_done hcond, part_end L P (by omega), rfl⟩
theorem some_run (ho : OfOk cf) (hF : 200 ≤ F) {m : Nat} {ps : List (Int × Int)} {R : List Int} (L : Lin m ps R) (s : Sr) : ∃ q s', runF cf F d__law_some_list [.src, ordD m ps] s = some (rowD q, s') ∧ Lin m ps q ∧ s'.fz = s.fz := by
  have hm : m ≤ 100 := by have h1 := L.len; have h2 := L.small; omega
  obtain ⟨q, y3, s', e, L2, fz⟩ := some_loop cf F ho L false m F [] none s (by simp) (by omega) ⟨List.nodup_nil, fun w h => (by cases h), fun a b _ h => (by cases h)⟩ (by simp)
  refine ⟨q, s', ?_, L2, fz⟩
  simp only [rowD, List.map_nil] at e
  simp only [run_f, s_st, s_nil', k_nx, k_rt, k_bk, k_ct, m_asg, m_asgO, m_asgT, m_par, m_set, m_app, m_expr, m_ite, m_for, m_ret, m_sput, m_sfill, v_var, v_bor, v_int, v_bl, v_str, v_non, v_sget, v_not, v_and, v_or, v_ife, v_tup, v_lst, v_dnew, v_call, v_bi, v_comp, o_nil', o_bor, e_nil, e_star, t_nil', t_ex, c_turn, asB, asI, isSrc, outR, bindT, bindTs, putsE, fr, szLine, List.length_cons, List.length_nil, List.map_cons, List.map_nil, List.cons_append, List.nil_append, List.append_nil, List.getElem?_cons_zero, List.getElem?_cons_succ, List.set_cons_zero, List.set_cons_succ, List.replicate_zero, List.replicate_succ, List.getD_cons_zero, Nat.reduceSub, Nat.reduceAdd, Option.bind_some, Option.bind_none, Option.map_some, if_true, if_false, Bool.and_true, Bool.true_and, Bool.not_true, Bool.not_false, Bool.or_true, Bool.true_or, Bool.false_or, Bool.or_false, Bool.and_false, Bool.false_and, Bool.and_self, Bool.or_self, Bool.false_eq_true, startE, reduceCtorEq, List.contains_nil, List.contains_cons, Nat.reduceBEq, ite_self, Nat.reduceLeDiff, Nat.reduceEqDiff, Int.reduceLE, Int.reduceLT, Int.reduceNeg, Int.reduceAdd, Int.reduceSub, ↓reduceIte, decide_true, decide_false, true_or, or_true, or_false, false_or, or_self, not_true_eq_false, not_false_eq_true, if_true, itemsL_, itemsT_, o_var_, e_var_, o_mv_, e_mv_, o_rel_, e_rel_, o_int_, e_int_, o_bl_, e_bl_, o_str_, e_str_, o_non_, e_non_, o_not_, e_not_, o_and_, e_and_, o_or_, e_or_, o_ife_, e_ife_, o_tup_, e_tup_, o_lst_, e_lst_, o_dnew_, e_dnew_, o_call_, e_call_, o_bi_, e_bi_, o_pop_, e_pop_, o_popAt_, e_popAt_, o_sget_, e_sget_, o_comp_, e_comp_, e_bor_, b_add_, b_addT_, b_addL_, b_sub_, b_mod_, b_fdiv_, b_cmp_, b_neg_, b_idxL_, b_idxT_, b_idxD_, b_slcTt_, b_slcTf_, b_slcLt_, b_slcLf_, b_revL_, b_lenL_, b_lenT_, b_abs_, b_toint_, b_totupL_, b_totupT_, b_tolstL_, b_tolstT_, b_repr_, b_lr1_, b_lr2_, b_lr3_, b_clt_, b_cle_, b_cgt_, b_cge_, b_ceq_, b_cne_, b_cin_, b_cni_, b_badbin_, b_badcmp_, b_wseqL_, b_wseqT_, b_wr1_, b_wr2_, b_wr3_, b_wenL_, b_wenT_, bad_neg_, bad_idx_, bad_rev_, bad_cnt_, bad_len_, bad_sum_, bad_max1_, bad_min1_, bad_max2_, bad_min2_, bad_abs_, bad_toint_, bad_totup_, bad_tolst_, bad_sorted_, bad_repr_, bad_mint_, bad_any_, bad_all_, bad_lrange1_, bad_lrange2_, bad_lrange3_, bad_slc_, bad_dict_, bad_ixL_, bad_ixT_, p20, p21, p10, p30, p31, p32, rd0_, rv0_, ro0_, rl0_, rd1_, rv1_, ro1_, rl1_, rd2_, rv2_, ro2_, rl2_, rd3_, rv3_, ro3_, rl3_, rd4_, rv4_, ro4_, rl4_, rd5_, rv5_, ro5_, rl5_, rd6_, rv6_, ro6_, rl6_, rd7_, rv7_, ro7_, rl7_, rd8_, rv8_, ro8_, rl8_, rd9_, rv9_, ro9_, rl9_, rd10_, rv10_, ro10_, rl10_, rd11_, rv11_, ro11_, rl11_, rd12_, rv12_, ro12_, rl12_, rd13_, rv13_, ro13_, rl13_, rd14_, rv14_, ro14_, rl14_, rd15_, rv15_, ro15_, rl15_, rd16_, rv16_, ro16_, rl16_, rd17_, rv17_, ro17_, rl17_, d__law_some_list, b__law_some_list, m_whl_, e]
/-! _law_slid -/
theorem fold_put (f : Int → D) : ∀ (xs R : List Int), (∀ x ∈ xs, x ∉ R) → xs.Nodup → (xs.map fun w => (D.int w, f w)).foldl (fun kvs (p : D × D) => put p.1 p.2 kvs) (R.map fun w => (D.int w, f w)) = (R ++ xs).map fun w => (D.int w, f w)
  | [], R, _, _ => by simp
  | x :: xs, R, h, nx => by
    rw [List.nodup_cons] at nx
    have hx := h x List.mem_cons_self
    have hput : ∀ L : List Int, x ∉ L → put (.int x) (f x) (L.map fun w => (D.int w, f w)) = (L ++ [x]).map fun w => (D.int w, f w) := by
      intro L
      induction L with
      | nil => intro _; rfl
      | cons y L ih =>
        intro hL
        have hne : y ≠ x := fun e => hL (by simp [e])
        simp only [List.map_cons, put, same_int, decide_eq_false hne, Bool.false_eq_true, if_false, List.cons_append]
        rw [ih (fun z => hL (List.mem_cons_of_mem _ z))]
    rw [List.map_cons, List.foldl_cons, hput R hx, fold_put f xs (R ++ [x]) (fun y hy hm => by
        rcases List.mem_append.mp hm with hm | hm
        · exact h y (List.mem_cons_of_mem _ hy) hm
        · rw [List.mem_singleton] at hm; rw [hm] at hy; exact nx.1 hy) nx.2]
    simp
theorem dictF (f : Int → D) (R : List Int) (nd : R.Nodup) : biD (.dict false) [.lst (R.map fun w => .tup [.int w, f w])] = some (.dct false (R.map fun w => (D.int w, f w))) := by
  have h1 : ∀ L : List Int, pairsOf (L.map fun w => D.tup [.int w, f w]) = some (L.map fun w => (D.int w, f w)) := by
    intro L
    induction L with
    | nil => rfl
    | cons x L ih => rw [List.map_cons]; show (pairsOf _).map _ = _; rw [ih]; rfl
  have h2 : ((R.map fun w => (D.int w, f w)).all fun p => keyOk false p.1) = true := by
    simp only [List.all_eq_true, List.mem_map]
    rintro x ⟨p, _, rfl⟩
    rfl
  show (pairsOf _).bind _ = _
  rw [h1, Option.bind_some, if_pos h2]
  have := fold_put f R [] (fun x _ h => by simp at h) nd
  rw [List.map_nil, List.nil_append] at this
  rw [this]
theorem lookF (f : Int → D) (b : Int) : ∀ {R : List Int}, b ∈ R → look (.int b) (R.map fun w => (D.int w, f w)) = some (f b)
  | [], h => by simp at h
  | w :: R, h => by
    simp only [List.map_cons, look, same_int]
    by_cases e : w = b
    · subst e; simp
    · simp only [decide_eq_false e, Bool.false_eq_true, if_false]
      exact lookF f b (by rcases List.mem_cons.mp h with h | h; exact absurd h.symm e; exact h)
theorem putF_ (f : Int → D) (b : Int) (v : D) : ∀ {R : List Int}, R.Nodup → b ∈ R → put (.int b) v (R.map fun w => (D.int w, f w)) = R.map fun w => (D.int w, if w = b then v else f w)
  | [], _, h => by simp at h
  | w :: R, nd, h => by
    rw [List.nodup_cons] at nd
    simp only [List.map_cons, put, same_int]
    by_cases e : w = b
    · subst e
      simp only [decide_true, if_true, List.cons.injEq, true_and]
      refine List.map_congr_left fun x hx => ?_
      rw [if_neg (fun z => nd.1 (by rw [← z]; exact hx))]
    · simp only [decide_eq_false e, Bool.false_eq_true, if_false, if_neg e, List.cons.injEq, true_and]
      exact putF_ f b v nd.2 (by rcases List.mem_cons.mp h with h | h; exact absurd h.symm e; exact h)
/-- the path, step by step -/
theorem path_find (ps : List (Int × Int)) (p : List Int) (c : Int) (hc : p.getD (p.length - 1) 0 = c) : ∀ ws : List Int,
    ((∀ w ∈ ws, ps.contains (c, w) = false) ∧ ws.foldl (pathS ps) p = p) ∨ ∃ ws1 w ws2, ws = ws1 ++ w :: ws2 ∧ (∀ x ∈ ws1, ps.contains (c, x) = false) ∧ ps.contains (c, w) = true ∧ ws.foldl (pathS ps) p = ws2.foldl (pathS ps) (p ++ [w])
  | [] => .inl ⟨fun w h => (by cases h), rfl⟩
  | v :: ws => by
    cases hv : ps.contains (c, v) with
    | true =>
      refine .inr ⟨[], v, ws, rfl, fun x h => (by cases h), hv, ?_⟩
      rw [List.foldl_cons]
      unfold pathS
      rw [hc, hv, if_pos rfl]
    | false =>
      have e : pathS ps p v = p := by unfold pathS; rw [hc, hv, if_neg Bool.false_ne_true]
      rw [List.foldl_cons, e]
      rcases path_find ps p c hc ws with ⟨h1, h2⟩ | ⟨ws1, w, ws2, h1, h2, h3, h4⟩
      · exact .inl ⟨fun w hw => (List.mem_cons.mp hw).elim (fun z => by rw [z]; exact hv) (h1 w), h2⟩
      · exact .inr ⟨v :: ws1, w, ws2, by rw [h1]; rfl, fun x hx => (List.mem_cons.mp hx).elim (fun z => by rw [z]; exact hv) (h2 x), h3, h4⟩
def succs (ps : List (Int × Int)) (c : Int) : List Int := (ps.filter fun p => decide (p.1 = c)).map fun p => p.2
theorem mem_succs {ps : List (Int × Int)} {c b : Int} : b ∈ succs ps c ↔ (c, b) ∈ ps := by
  unfold succs
  rw [List.mem_map]
  constructor
  · rintro ⟨p, hp, rfl⟩
    obtain ⟨h1, h2⟩ := List.mem_filter.mp hp
    rw [decide_eq_true_eq] at h2
    subst h2
    exact h1
  · intro h
    exact ⟨(c, b), List.mem_filter.mpr ⟨h, by simp⟩, rfl⟩
/-- behind c all that must be behind it -/
theorem succ_after {n : Int} {ps : List (Int × Int)} {r pre ws : List Int} {c b : Int} (L : Lin n ps r) (hr : r = pre ++ c :: ws) (h : (c, b) ∈ ps) : b ∈ ws := by
  obtain ⟨i, j, hij, h1, h2⟩ := L.ext c b h
  have hc : r[pre.length]? = some c := by rw [hr, List.getElem?_append_right (Nat.le_refl _), Nat.sub_self]; rfl
  have hi := nd_inj L.nd h1 hc
  rw [hr, List.getElem?_append_right (by omega)] at h2
  obtain ⟨k, hk⟩ : ∃ k, j - pre.length = k + 1 := ⟨j - pre.length - 1, by omega⟩
  rw [hk, List.getElem?_cons_succ] at h2
  exact List.mem_of_getElem? h2
theorem idx_in {n : Int} {ps : List (Int × Int)} {r pre ws : List Int} {w : Int} (L : Lin n ps r) (hr : r = pre ++ w :: ws) : r.idxOf w = pre.length :=
  idx_at L.nd (by rw [hr, List.getElem?_append_right (Nat.le_refl _), Nat.sub_self]; rfl)
/-- the next of the path: the first that must be behind -/
theorem path_next {n : Int} {ps : List (Int × Int)} {r pre ws p : List Int} {c : Int} (L : Lin n ps r) (hr : r = pre ++ c :: ws) (hc : p.getD (p.length - 1) 0 = c) :
    (succs ps c = [] ∧ ws.foldl (pathS ps) p = p) ∨ ∃ pre2 w ws2, r = pre2 ++ w :: ws2 ∧ w ∈ succs ps c ∧ (∀ b ∈ succs ps c, r.idxOf w ≤ r.idxOf b) ∧ ws.foldl (pathS ps) p = ws2.foldl (pathS ps) (p ++ [w]) ∧ pre.length < pre2.length := by
  rcases path_find ps p c hc ws with ⟨h1, h2⟩ | ⟨ws1, w, ws2, h1, h2, h3, h4⟩
  · refine .inl ⟨List.eq_nil_iff_forall_not_mem.mpr fun b hb => ?_, h2⟩
    have hb := mem_succs.mp hb
    have := h1 b (succ_after L hr hb)
    rw [← Bool.not_eq_true, List.contains_iff_mem] at this
    exact this hb
  · have hr2 : r = (pre ++ c :: ws1) ++ w :: ws2 := by rw [hr, h1]; simp
    refine .inr ⟨_, w, ws2, hr2, mem_succs.mpr (by simpa using h3), fun b hb => ?_, h4, by simp⟩
    have hb := mem_succs.mp hb
    have hbw := succ_after L hr hb
    rw [h1] at hbw
    have hn1 : b ∉ ws1 := fun z => by
      have := h2 b z
      rw [← Bool.not_eq_true, List.contains_iff_mem] at this
      exact this hb
    rw [idx_in L hr2]
    rcases List.mem_append.mp hbw with hbw | hbw
    · exact absurd hbw hn1
    · obtain ⟨k, hk⟩ := List.getElem?_of_mem hbw
      have : r[(pre ++ c :: ws1).length + k]? = some b := by rw [hr2, List.getElem?_append_right (by omega), Nat.add_sub_cancel_left]; exact hk
      rw [idx_at L.nd this]
      omega
section
variable (n : Int) (ps : List (Int × Int)) (r p : List Int) (s3 s4 s5 s6 s7 s10 : Option (Bool × D))
abbrev ES (p : List Int) (y8 y9 : Option (Bool × D)) : Env := [some (false, ordD n ps), some (false, rowD r), some (true, .lst (p.map .int)), s3, s4, s5, s6, s7, y8, y9, s10]
theorem suc_turns (hp : 0 < p.length) (elt : Ex) (g : Int → D) (s : Sr) : ∀ (xs : List (Int × Int)) (acc : List D) (y8 y9 : Option (Bool × D)), (∀ q ∈ xs, ∀ z8, ev cf elt (ES n ps r s3 s4 s5 s6 s7 s10 p z8 (some (false, .int q.2))) s = some (g q.2, ES n ps r s3 s4 s5 s6 s7 s10 p z8 (some (false, .int q.2)), s)) →
    ∃ z8 z9, turns (cTurn cf [8, 9] (.tp [.nm 8, .nm 9]) [.bi (.cmp .eq) [.bor 8, .bi .idx [.bor 2, .bi .neg [.int 1]]]] elt) (xs.map pr) acc (ES n ps r s3 s4 s5 s6 s7 s10 p y8 y9) s = some (acc.reverse ++ ((xs.filter fun q => decide (q.1 = p.getD (p.length - 1) 0)).map fun q => q.2).map g, ES n ps r s3 s4 s5 s6 s7 s10 p z8 z9, s)
  | [], acc, y8, y9, _ => ⟨y8, y9, by simp only [List.map_nil, List.filter_nil, List.append_nil]; rfl⟩
  | q :: xs, acc, y8, y9, he => by
    have he1 := he q List.mem_cons_self
    have hc : cTurn cf [8, 9] (.tp [.nm 8, .nm 9]) [.bi (.cmp .eq) [.bor 8, .bi .idx [.bor 2, .bi .neg [.int 1]]]] elt (pr q) (ES n ps r s3 s4 s5 s6 s7 s10 p y8 y9) s = some (if decide (q.1 = p.getD (p.length - 1) 0) then some (g q.2) else none, ES n ps r s3 s4 s5 s6 s7 s10 p (some (false, .int q.1)) (some (false, .int q.2)), s) := by
      rw [c_turn]
      show (bindT (.tp [.nm 8, .nm 9]) (pr q) (ES n ps r s3 s4 s5 s6 s7 s10 p none none)).bind _ = _
      simp only [bindT.eq_2, bindTs]
      rw [bind_nm (fun d h => by cases h)]
      simp only
      rw [bind_nm (fun d h => by simp at h)]
      have he2 := he1 (some (false, .int q.1))
      simp only [run_f, s_st, s_nil', k_nx, k_rt, k_bk, k_ct, m_asg, m_asgO, m_asgT, m_par, m_set, m_app, m_expr, m_ite, m_for, m_ret, m_sput, m_sfill, v_var, v_bor, v_int, v_bl, v_str, v_non, v_sget, v_not, v_and, v_or, v_ife, v_tup, v_lst, v_dnew, v_call, v_bi, v_comp, o_nil', o_bor, e_nil, e_star, t_nil', t_ex, c_turn, asB, asI, isSrc, outR, bindT, bindTs, putsE, fr, szLine, List.length_cons, List.length_nil, List.map_cons, List.map_nil, List.cons_append, List.nil_append, List.append_nil, List.getElem?_cons_zero, List.getElem?_cons_succ, List.set_cons_zero, List.set_cons_succ, List.replicate_zero, List.replicate_succ, List.getD_cons_zero, Nat.reduceSub, Nat.reduceAdd, Option.bind_some, Option.bind_none, Option.map_some, if_true, if_false, Bool.and_true, Bool.true_and, Bool.not_true, Bool.not_false, Bool.or_true, Bool.true_or, Bool.false_or, Bool.or_false, Bool.and_false, Bool.false_and, Bool.and_self, Bool.or_self, Bool.false_eq_true, startE, reduceCtorEq, List.contains_nil, List.contains_cons, Nat.reduceBEq, ite_self, Nat.reduceLeDiff, Nat.reduceEqDiff, Int.reduceLE, Int.reduceLT, Int.reduceNeg, Int.reduceAdd, Int.reduceSub, ↓reduceIte, decide_true, decide_false, true_or, or_true, or_false, false_or, or_self, not_true_eq_false, not_false_eq_true, if_true, itemsL_, itemsT_, o_var_, e_var_, o_mv_, e_mv_, o_rel_, e_rel_, o_int_, e_int_, o_bl_, e_bl_, o_str_, e_str_, o_non_, e_non_, o_not_, e_not_, o_and_, e_and_, o_or_, e_or_, o_ife_, e_ife_, o_tup_, e_tup_, o_lst_, e_lst_, o_dnew_, e_dnew_, o_call_, e_call_, o_bi_, e_bi_, o_pop_, e_pop_, o_popAt_, e_popAt_, o_sget_, e_sget_, o_comp_, e_comp_, e_bor_, b_add_, b_addT_, b_addL_, b_sub_, b_mod_, b_fdiv_, b_cmp_, b_neg_, b_idxL_, b_idxT_, b_idxD_, b_slcTt_, b_slcTf_, b_slcLt_, b_slcLf_, b_revL_, b_lenL_, b_lenT_, b_abs_, b_toint_, b_totupL_, b_totupT_, b_tolstL_, b_tolstT_, b_repr_, b_lr1_, b_lr2_, b_lr3_, b_clt_, b_cle_, b_cgt_, b_cge_, b_ceq_, b_cne_, b_cin_, b_cni_, b_badbin_, b_badcmp_, b_wseqL_, b_wseqT_, b_wr1_, b_wr2_, b_wr3_, b_wenL_, b_wenT_, bad_neg_, bad_idx_, bad_rev_, bad_cnt_, bad_len_, bad_sum_, bad_max1_, bad_min1_, bad_max2_, bad_min2_, bad_abs_, bad_toint_, bad_totup_, bad_tolst_, bad_sorted_, bad_repr_, bad_mint_, bad_any_, bad_all_, bad_lrange1_, bad_lrange2_, bad_lrange3_, bad_slc_, bad_dict_, bad_ixL_, bad_ixT_, p20, p21, p10, p30, p31, p32, rd0_, rv0_, ro0_, rl0_, rd1_, rv1_, ro1_, rl1_, rd2_, rv2_, ro2_, rl2_, rd3_, rv3_, ro3_, rl3_, rd4_, rv4_, ro4_, rl4_, rd5_, rv5_, ro5_, rl5_, rd6_, rv6_, ro6_, rl6_, rd7_, rv7_, ro7_, rl7_, rd8_, rv8_, ro8_, rl8_, rd9_, rv9_, ro9_, rl9_, rd10_, rv10_, ro10_, rl10_, rd11_, rv11_, ro11_, rl11_, rd12_, rv12_, ro12_, rl12_, rd13_, rv13_, ro13_, rl13_, rd14_, rv14_, ro14_, rl14_, rd15_, rv15_, ro15_, rl15_, rd16_, rv16_, ro16_, rl16_, rd17_, rv17_, ro17_, rl17_, List.length_map, place_neg1 hp, row_get (show p.length - 1 < p.length by omega), eqD_int]
      cases decide (q.1 = p.getD (p.length - 1) 0) <;> simp only [run_f, s_st, s_nil', k_nx, k_rt, k_bk, k_ct, m_asg, m_asgO, m_asgT, m_par, m_set, m_app, m_expr, m_ite, m_for, m_ret, m_sput, m_sfill, v_var, v_bor, v_int, v_bl, v_str, v_non, v_sget, v_not, v_and, v_or, v_ife, v_tup, v_lst, v_dnew, v_call, v_bi, v_comp, o_nil', o_bor, e_nil, e_star, t_nil', t_ex, c_turn, asB, asI, isSrc, outR, bindT, bindTs, putsE, fr, szLine, List.length_cons, List.length_nil, List.map_cons, List.map_nil, List.cons_append, List.nil_append, List.append_nil, List.getElem?_cons_zero, List.getElem?_cons_succ, List.set_cons_zero, List.set_cons_succ, List.replicate_zero, List.replicate_succ, List.getD_cons_zero, Nat.reduceSub, Nat.reduceAdd, Option.bind_some, Option.bind_none, Option.map_some, if_true, if_false, Bool.and_true, Bool.true_and, Bool.not_true, Bool.not_false, Bool.or_true, Bool.true_or, Bool.false_or, Bool.or_false, Bool.and_false, Bool.false_and, Bool.and_self, Bool.or_self, Bool.false_eq_true, startE, reduceCtorEq, List.contains_nil, List.contains_cons, Nat.reduceBEq, ite_self, Nat.reduceLeDiff, Nat.reduceEqDiff, Int.reduceLE, Int.reduceLT, Int.reduceNeg, Int.reduceAdd, Int.reduceSub, ↓reduceIte, decide_true, decide_false, true_or, or_true, or_false, false_or, or_self, not_true_eq_false, not_false_eq_true, if_true, itemsL_, itemsT_, o_var_, e_var_, o_mv_, e_mv_, o_rel_, e_rel_, o_int_, e_int_, o_bl_, e_bl_, o_str_, e_str_, o_non_, e_non_, o_not_, e_not_, o_and_, e_and_, o_or_, e_or_, o_ife_, e_ife_, o_tup_, e_tup_, o_lst_, e_lst_, o_dnew_, e_dnew_, o_call_, e_call_, o_bi_, e_bi_, o_pop_, e_pop_, o_popAt_, e_popAt_, o_sget_, e_sget_, o_comp_, e_comp_, e_bor_, b_add_, b_addT_, b_addL_, b_sub_, b_mod_, b_fdiv_, b_cmp_, b_neg_, b_idxL_, b_idxT_, b_idxD_, b_slcTt_, b_slcTf_, b_slcLt_, b_slcLf_, b_revL_, b_lenL_, b_lenT_, b_abs_, b_toint_, b_totupL_, b_totupT_, b_tolstL_, b_tolstT_, b_repr_, b_lr1_, b_lr2_, b_lr3_, b_clt_, b_cle_, b_cgt_, b_cge_, b_ceq_, b_cne_, b_cin_, b_cni_, b_badbin_, b_badcmp_, b_wseqL_, b_wseqT_, b_wr1_, b_wr2_, b_wr3_, b_wenL_, b_wenT_, bad_neg_, bad_idx_, bad_rev_, bad_cnt_, bad_len_, bad_sum_, bad_max1_, bad_min1_, bad_max2_, bad_min2_, bad_abs_, bad_toint_, bad_totup_, bad_tolst_, bad_sorted_, bad_repr_, bad_mint_, bad_any_, bad_all_, bad_lrange1_, bad_lrange2_, bad_lrange3_, bad_slc_, bad_dict_, bad_ixL_, bad_ixT_, p20, p21, p10, p30, p31, p32, rd0_, rv0_, ro0_, rl0_, rd1_, rv1_, ro1_, rl1_, rd2_, rv2_, ro2_, rl2_, rd3_, rv3_, ro3_, rl3_, rd4_, rv4_, ro4_, rl4_, rd5_, rv5_, ro5_, rl5_, rd6_, rv6_, ro6_, rl6_, rd7_, rv7_, ro7_, rl7_, rd8_, rv8_, ro8_, rl8_, rd9_, rv9_, ro9_, rl9_, rd10_, rv10_, ro10_, rl10_, rd11_, rv11_, ro11_, rl11_, rd12_, rv12_, ro12_, rl12_, rd13_, rv13_, ro13_, rl13_, rd14_, rv14_, ro14_, rl14_, rd15_, rv15_, ro15_, rl15_, rd16_, rv16_, ro16_, rl16_, rd17_, rv17_, ro17_, rl17_, he2]
    cases hx : decide (q.1 = p.getD (p.length - 1) 0) with
    | false =>
      rw [hx] at hc
      obtain ⟨z8, z9, ih⟩ := suc_turns hp elt g s xs acc (some (false, .int q.1)) (some (false, .int q.2)) fun q' h => he q' (List.mem_cons_of_mem _ h)
      refine ⟨z8, z9, (tn_no hc).trans (ih.trans ?_)⟩
      rw [List.filter_cons, hx]; rfl
    | true =>
      rw [hx] at hc
      obtain ⟨z8, z9, ih⟩ := suc_turns hp elt g s xs (g q.2 :: acc) (some (false, .int q.1)) (some (false, .int q.2)) fun q' h => he q' (List.mem_cons_of_mem _ h)
      refine ⟨z8, z9, (tn_yes hc).trans (ih.trans ?_)⟩
      rw [List.filter_cons, hx, List.reverse_cons, List.append_assoc]; rfl
end
theorem shp_intsK (k : Nat) (L : List Int) : D.shpL (L.map .int) (k + 1) = true := by
  induction L with
  | nil => rfl
  | cons p r ih => simp only [List.map_cons, D.shpL, ih, Bool.and_true]; rfl
theorem eqD_nilI (Q : List Int) : eqD (.lst (Q.map .int)) (.lst []) = some Q.isEmpty := by
  have h1 : D.shp (.lst (Q.map .int)) 60 = true := shp_intsK 58 Q
  have h2 : D.shp (.lst []) 60 = true := rfl
  show (if (D.shp (.lst (Q.map .int)) 60 && D.shp (.lst []) 60) = true then some (D.eqv (.lst (Q.map .int)) (.lst [])) else none) = _
  rw [h1, h2]
  cases Q <;> rfl
/-- the first of the least, by places -/
abbrev plD (f : Int → Int) (b : Int) : D := .tup [.int (f b), .int b]
theorem ltD_pl (f : Int → Int) (a b : Int) : ltD (plD f a) (plD f b) = (if f a = f b then decide (a < b) else decide (f a < f b)) := by
  simp only [ltD, ltL, D.eqv, decide_eq_true_eq]
  by_cases h : f a = f b
  · simp only [h, if_true]
    by_cases h2 : a = b
    · simp [h2]
    · simp [h2]
  · simp [h]
theorem min_fold (f : Int → Int) (w : Int) : ∀ (xs : List Int) (x : Int), (∀ y ∈ x :: xs, f w ≤ f y) → (∀ y ∈ x :: xs, f y = f w → y = w) → w ∈ x :: xs → (xs.map (plD f)).foldl (fun a y => if ltD y a then y else a) (plD f x) = plD f w
  | [], x, _, _, hw => by simp at hw; subst hw; rfl
  | y :: xs, x, h1, h2, hw => by
    rw [List.map_cons, List.foldl_cons, ltD_pl]
    have hx := h1 x List.mem_cons_self
    have hy := h1 y (List.mem_cons_of_mem _ List.mem_cons_self)
    by_cases e : f y = f x
    · rw [if_pos e]
      by_cases hyx : y < x
      · simp only [hyx, decide_true, if_true]
        refine min_fold f w xs y (fun z hz => h1 z (List.mem_cons_of_mem _ hz)) (fun z hz => h2 z (List.mem_cons_of_mem _ hz)) ?_
        rcases List.mem_cons.mp hw with hw | hw
        · have := h2 y (List.mem_cons_of_mem _ List.mem_cons_self) (by rw [e, ← hw]); omega
        · exact hw
      · simp only [hyx, decide_false, if_false, Bool.false_eq_true]
        refine min_fold f w xs x (fun z hz => h1 z (by rcases List.mem_cons.mp hz with h | h; exact h ▸ List.mem_cons_self; exact List.mem_cons_of_mem _ (List.mem_cons_of_mem _ h))) (fun z hz => h2 z (by rcases List.mem_cons.mp hz with h | h; exact h ▸ List.mem_cons_self; exact List.mem_cons_of_mem _ (List.mem_cons_of_mem _ h))) ?_
        rcases List.mem_cons.mp hw with hw | hw
        · exact hw ▸ List.mem_cons_self
        · rcases List.mem_cons.mp hw with hw | hw
          · have := h2 x List.mem_cons_self (by rw [← e, ← hw])
            rw [this]; exact List.mem_cons_self
          · exact List.mem_cons_of_mem _ hw
    · rw [if_neg e]
      by_cases hyx : f y < f x
      · simp only [hyx, decide_true, if_true]
        refine min_fold f w xs y (fun z hz => h1 z (List.mem_cons_of_mem _ hz)) (fun z hz => h2 z (List.mem_cons_of_mem _ hz)) ?_
        rcases List.mem_cons.mp hw with hw | hw
        · rw [hw] at hy; omega
        · exact hw
      · simp only [hyx, decide_false, if_false, Bool.false_eq_true]
        refine min_fold f w xs x (fun z hz => h1 z (by rcases List.mem_cons.mp hz with h | h; exact h ▸ List.mem_cons_self; exact List.mem_cons_of_mem _ (List.mem_cons_of_mem _ h))) (fun z hz => h2 z (by rcases List.mem_cons.mp hz with h | h; exact h ▸ List.mem_cons_self; exact List.mem_cons_of_mem _ (List.mem_cons_of_mem _ h))) ?_
        rcases List.mem_cons.mp hw with hw | hw
        · exact hw ▸ List.mem_cons_self
        · rcases List.mem_cons.mp hw with hw | hw
          · rw [hw] at hx; omega
          · exact List.mem_cons_of_mem _ hw
theorem mint_run (f : Int → Int) (Q : List Int) (w : Int) (h1 : ∀ y ∈ Q, f w ≤ f y) (h2 : ∀ y ∈ Q, f y = f w → y = w) (hw : w ∈ Q) : biD .mint [.lst (Q.map (plD f))] = some (plD f w) := by
  cases Q with
  | nil => cases hw
  | cons x xs =>
    have a1 : ((x :: xs).map (plD f)).all (fun a => ((x :: xs).map (plD f)).all fun b => alk a b) = true := by
      simp only [List.all_eq_true, List.mem_map]
      rintro a ⟨p, _, rfl⟩ b ⟨q, _, rfl⟩
      rfl
    have a2 : D.shpL ((x :: xs).map (plD f)) 60 = true := by
      have : ∀ L : List Int, D.shpL (L.map (plD f)) 60 = true := fun L => by
        induction L with
        | nil => rfl
        | cons p r ih => simp only [List.map_cons, D.shpL, ih, Bool.and_true]; rfl
      exact this _
    show (if ((x :: xs).map (plD f)).all (fun a => ((x :: xs).map (plD f)).all fun b => alk a b) && D.shpL ((x :: xs).map (plD f)) 60 then some ((xs.map (plD f)).foldl (fun a y => if ltD y a then y else a) (plD f x)) else none) = _
    rw [a1, a2, Bool.and_self, if_pos rfl, min_fold f w xs x h1 h2 hw]
end Toy
end

section
set_option linter.all false
set_option autoImplicit false
set_option maxRecDepth 10000
namespace Toy
open Rf
/-! the slide's numbers, plain -/
theorem path_sub (ps : List (Int × Int)) : ∀ (ws p : List Int), ∃ e, ws.foldl (pathS ps) p = p ++ e ∧ e.Sublist ws
  | [], p => ⟨[], by simp, .slnil⟩
  | w :: ws, p => by
    obtain ⟨e, h1, h2⟩ := path_sub ps ws (pathS ps p w)
    rw [List.foldl_cons, h1]
    unfold pathS
    split
    · exact ⟨w :: e, by simp, h2.cons₂ w⟩
    · exact ⟨e, rfl, h2.cons w⟩
theorem pathR_sub (ps : List (Int × Int)) (r : List Int) : (pathR ps r).Sublist r := by
  obtain ⟨e, h1, h2⟩ := path_sub ps (r.drop 1) (r.take 1)
  unfold pathR
  rw [h1]
  conv => rhs; rw [← List.take_append_drop 1 r]
  exact (List.Sublist.refl _).append h2
theorem pathR_mono {ps : List (Int × Int)} {r : List Int} (nd : r.Nodup) : (pathR ps r).Pairwise fun a b => r.idxOf a < r.idxOf b := by
  refine List.Pairwise.sublist (pathR_sub ps r) ?_
  rw [List.pairwise_iff_getElem]
  intro i j hi hj hij
  rw [idx_at nd (List.getElem?_eq_getElem hi), idx_at nd (List.getElem?_eq_getElem hj)]
  exact hij
/-- one number more -/
def slS (n : Int) (r p : List Int) (f : Int → Int) (k : Nat) : Int → Int := fun w => if w = p.getD k 0 then (if k + 1 < p.length then ((r.idxOf (p.getD (k + 1) 0) : Nat) : Int) - 1 else n - 1) else f w
def slF (n : Int) (r p : List Int) : Int → Int := (List.range p.length).foldl (slS n r p) fun w => ((r.idxOf w : Nat) : Int) - 1
theorem slS_off (n : Int) (r p : List Int) (w : Int) : ∀ (ks : List Nat) (f : Int → Int), (∀ k ∈ ks, w ≠ p.getD k 0) → ks.foldl (slS n r p) f w = f w
  | [], f, _ => rfl
  | k :: ks, f, h => by
    rw [List.foldl_cons, slS_off n r p w ks _ fun j hj => h j (List.mem_cons_of_mem _ hj)]
    unfold slS
    rw [if_neg (h k List.mem_cons_self)]
theorem slF_off (n : Int) (r p : List Int) (w : Int) (h : w ∉ p) : slF n r p w = ((r.idxOf w : Nat) : Int) - 1 :=
  slS_off n r p w _ _ fun k hk e => by
    rw [List.mem_range] at hk
    rw [getD_of, List.getElem?_eq_getElem hk] at e
    exact h (e ▸ List.getElem_mem hk)
theorem slF_on (n : Int) (r p : List Int) (nd : p.Nodup) (k : Nat) (hk : k < p.length) : slF n r p (p.getD k 0) = if k + 1 < p.length then ((r.idxOf (p.getD (k + 1) 0) : Nat) : Int) - 1 else n - 1 := by
  have e : List.range p.length = List.range k ++ k :: List.range' (k + 1) (p.length - k - 1) := by
    obtain ⟨d, hd⟩ : ∃ d, p.length = k + (d + 1) := ⟨p.length - k - 1, by omega⟩
    rw [List.range_eq_range', List.range_eq_range', hd, ← List.range'_append_1, List.range'_succ, show k + (d + 1) - k - 1 = d by omega, Nat.zero_add]
  unfold slF
  rw [e, List.foldl_append, List.foldl_cons, slS_off]
  · unfold slS
    rw [if_pos rfl]
  · intro j hj ej
    rw [List.mem_range'_1] at hj
    have hj2 : j < p.length := by omega
    have h1 : p[k]? = some (p.getD k 0) := by rw [getD_of, List.getElem?_eq_getElem hk]; rfl
    have h2 : p[j]? = some (p.getD k 0) := by rw [ej, getD_of, List.getElem?_eq_getElem hj2]; rfl
    have := nd_inj nd h1 h2
    omega
theorem slF_prom {n : Int} {r p : List Int} (hn : n = r.length) (nd : r.Nodup) (ndp : p.Nodup) (mo : p.Pairwise fun a b => r.idxOf a < r.idxOf b) (sub : ∀ x ∈ p, x ∈ r) : ∀ (ws pre : List Int) (q : List Int × Nat), r = pre ++ ws → q.1.length + 1 = pre.length → q.2 < p.length → r.idxOf (p.getD q.2 0) < pre.length → (q.2 + 1 < p.length → pre.length ≤ r.idxOf (p.getD (q.2 + 1) 0)) → (∀ (j : Nat) (x : Int), q.1[j]? = some x → slF n r p x = (j : Int)) →
    ∀ (j : Nat) (x : Int), ((ws.foldl (promS p) q).1 ++ [p.getD (p.length - 1) 0])[j]? = some x → slF n r p x = (j : Int)
  | [], pre, q, hr, hl, hk, hi, hn2, hf, j, x, hj => by
    have hpl : r.length = pre.length := by rw [hr, List.append_nil]
    have hlast : q.2 + 1 = p.length := by
      have : ¬ q.2 + 1 < p.length := fun h => by
        have h1 := hn2 h
        have h2 : p.getD (q.2 + 1) 0 ∈ r := sub _ (by rw [getD_of, List.getElem?_eq_getElem h]; exact List.getElem_mem h)
        have := List.idxOf_lt_length_of_mem h2
        omega
      omega
    rw [List.foldl_nil] at hj
    by_cases h : j < q.1.length
    · rw [List.getElem?_append_left h] at hj; exact hf j x hj
    · rw [List.getElem?_append_right (by omega)] at hj
      obtain ⟨d, hd⟩ : ∃ d, j = q.1.length + d := ⟨j - q.1.length, by omega⟩
      subst hd
      rw [Nat.add_sub_cancel_left] at hj
      cases d with
      | succ d => simp at hj
      | zero =>
        simp only [List.getElem?_cons_zero, Option.some.injEq] at hj
        rw [← hj, show p.length - 1 = q.2 by omega, slF_on n r p ndp q.2 hk, if_neg (by omega)]
        omega
  | w :: ws, pre, q, hr, hl, hk, hi, hn2, hf, j, x, hj => by
    have hw : r[pre.length]? = some w := by rw [hr, List.getElem?_append_right (Nat.le_refl _), Nat.sub_self]; rfl
    have hwi := idx_at nd hw
    have hr2 : r = (pre ++ [w]) ++ ws := by rw [hr]; simp
    have hpl2 : (pre ++ [w]).length = pre.length + 1 := by simp
    rw [List.foldl_cons] at hj
    have gt : ∀ {a b : Nat}, a < b → b < p.length → r.idxOf (p.getD a 0) < r.idxOf (p.getD b 0) := fun {a b} hab hb => by
      have := (List.pairwise_iff_getElem.mp mo) a b (by omega) hb hab
      rw [getD_of, getD_of, List.getElem?_eq_getElem (by omega), List.getElem?_eq_getElem hb]
      exact this
    by_cases hc : q.2 + 1 < p.length ∧ w = p.getD (q.2 + 1) 0
    · have e : promS p q w = (q.1 ++ [p.getD q.2 0], q.2 + 1) := by unfold promS; rw [if_pos hc]
      rw [e] at hj
      refine slF_prom hn nd ndp mo sub ws (pre ++ [w]) (q.1 ++ [p.getD q.2 0], q.2 + 1) hr2 (by simp; omega) hc.1 (by rw [← hc.2, hwi, hpl2]; exact Nat.lt_succ_self _) (fun h => ?_) (fun j x hj => ?_) j x hj
      · have := gt (Nat.lt_succ_self (q.2 + 1)) h
        rw [← hc.2, hwi] at this
        rw [hpl2]; exact this
      · by_cases h : j < q.1.length
        · rw [List.getElem?_append_left h] at hj; exact hf j x hj
        · rw [List.getElem?_append_right (by omega)] at hj
          obtain ⟨d, hd⟩ : ∃ d, j = q.1.length + d := ⟨j - q.1.length, by omega⟩
          subst hd
          rw [Nat.add_sub_cancel_left] at hj
          cases d with
          | succ d => simp at hj
          | zero =>
            simp only [List.getElem?_cons_zero, Option.some.injEq] at hj
            rw [← hj, slF_on n r p ndp q.2 hk, if_pos hc.1, ← hc.2, hwi]
            omega
    · have e : promS p q w = (q.1 ++ [w], q.2) := by unfold promS; rw [if_neg hc]
      rw [e] at hj
      have hnp : w ∉ p := fun hm => by
        obtain ⟨i, hi2⟩ := List.getElem?_of_mem hm
        have hil := (List.getElem?_eq_some_iff.mp hi2).1
        have hiw : p.getD i 0 = w := by rw [getD_of, hi2]; rfl
        have c1 : q.2 < i := by
          have : ¬ i < q.2 := fun h => by have := gt h hk; rw [hiw, hwi] at this; omega
          have : i ≠ q.2 := fun h => by rw [← h, hiw, hwi] at hi; omega
          omega
        have c2 : i ≠ q.2 + 1 := fun h => hc ⟨by omega, by rw [← h, hiw]⟩
        have := gt (show q.2 + 1 < i by omega) hil
        have := hn2 (by omega)
        rw [hiw, hwi] at *
        omega
      refine slF_prom hn nd ndp mo sub ws (pre ++ [w]) (q.1 ++ [w], q.2) hr2 (by simp; omega) hk (by rw [hpl2]; show r.idxOf (p.getD q.2 0) < _; omega) (fun h => ?_) (fun j x hj => ?_) j x hj
      · have h1 := hn2 h
        have h2 : r.idxOf (p.getD (q.2 + 1) 0) ≠ pre.length := fun z => by
          have hm : p.getD (q.2 + 1) 0 ∈ r := sub _ (by rw [getD_of, List.getElem?_eq_getElem h]; exact List.getElem_mem h)
          obtain ⟨i, hi3⟩ := List.getElem?_of_mem hm
          have hz := idx_at nd hi3
          rw [z] at hz
          rw [← hz, hw] at hi3
          exact hc ⟨h, Option.some.inj hi3⟩
        rw [hpl2]
        show _ ≤ r.idxOf (p.getD (q.2 + 1) 0)
        omega
      · by_cases h : j < q.1.length
        · rw [List.getElem?_append_left h] at hj; exact hf j x hj
        · rw [List.getElem?_append_right (by omega)] at hj
          obtain ⟨d, hd⟩ : ∃ d, j = q.1.length + d := ⟨j - q.1.length, by omega⟩
          subst hd
          rw [Nat.add_sub_cancel_left] at hj
          cases d with
          | succ d => simp at hj
          | zero =>
            simp only [List.getElem?_cons_zero, Option.some.injEq] at hj
            rw [← hj, slF_off n r p w hnp, hwi]
            omega
theorem slF_at {n : Int} {ps : List (Int × Int)} {r : List Int} (L : Lin n ps r) : ∀ (j : Nat) (x : Int), (promR ps r)[j]? = some x → slF n r (pathR ps r) x = (j : Int) := by
  obtain ⟨c, ws, hr⟩ : ∃ c ws, r = c :: ws := by
    cases r with
    | nil => exact absurd L.pos (Nat.lt_irrefl _)
    | cons c ws => exact ⟨c, ws, rfl⟩
  have hsub := pathR_sub ps r
  have ndp : (pathR ps r).Nodup := L.nd.sublist hsub
  have hp := (pathR_len ps r L.pos).1
  have h0 : (pathR ps r).getD 0 0 = c := by
    obtain ⟨e, h1, _⟩ := path_sub ps (r.drop 1) (r.take 1)
    unfold pathR
    rw [h1, hr]; rfl
  have hc0 : r[0]? = some c := by rw [hr]; rfl
  have hci := idx_at L.nd hc0
  have mo := pathR_mono (ps := ps) L.nd
  have key := slF_prom (p := pathR ps r) L.len L.nd ndp mo (fun x hx => hsub.subset hx) (r.drop 1) [c] ([], 0) (by rw [hr]; rfl) rfl hp (by rw [h0, hci]; exact Nat.zero_lt_one) (fun h => by
    have := (List.pairwise_iff_getElem.mp mo) 0 1 hp h Nat.zero_lt_one
    show 1 ≤ r.idxOf ((pathR ps r).getD 1 0)
    rw [getD_of, List.getElem?_eq_getElem h]
    show 1 ≤ r.idxOf (pathR ps r)[1]
    omega) (fun j x h => by cases h)
  exact key
/-! sorting pairs of numbers -/
def ltP (p q : Int × Int) : Bool := if p.1 = q.1 then decide (p.2 < q.2) else decide (p.1 < q.1)
theorem ltD_pr (p q : Int × Int) : ltD (pr p) (pr q) = ltP p q := by
  unfold ltP
  simp only [ltD, ltL, D.eqv, decide_eq_true_eq]
  by_cases h : p.1 = q.1
  · simp only [h, if_true]
    by_cases h2 : p.2 = q.2
    · simp [h2]
    · simp [h2]
  · simp [h]
def insP (x : Int × Int) : List (Int × Int) → List (Int × Int)
  | [] => [x]
  | y :: ys => if ltP y x then y :: insP x ys else x :: y :: ys
def sortP : List (Int × Int) → List (Int × Int)
  | [] => []
  | x :: xs => insP x (sortP xs)
theorem insP_map (x : Int × Int) : ∀ L : List (Int × Int), insD (pr x) (L.map pr) = (insP x L).map pr
  | [] => rfl
  | y :: ys => by
    rw [List.map_cons]
    unfold insD insP
    rw [ltD_pr, insP_map x ys]
    split <;> rfl
theorem sortP_map : ∀ L : List (Int × Int), sortD (L.map pr) = (sortP L).map pr
  | [] => rfl
  | x :: xs => by
    rw [List.map_cons]
    unfold sortD sortP
    rw [sortP_map xs, insP_map]
abbrev leP (p q : Int × Int) : Prop := p.1 < q.1 ∨ (p.1 = q.1 ∧ p.2 ≤ q.2)
theorem insP_perm (x : Int × Int) : ∀ L : List (Int × Int), (insP x L).Perm (x :: L)
  | [] => .refl _
  | y :: ys => by
    unfold insP
    split
    · exact ((insP_perm x ys).cons y).trans (.swap ..)
    · exact .refl _
theorem sortP_perm : ∀ L : List (Int × Int), (sortP L).Perm L
  | [] => .refl _
  | x :: xs => (insP_perm x _).trans ((sortP_perm xs).cons x)
theorem insP_sorted (x : Int × Int) : ∀ L : List (Int × Int), L.Pairwise leP → (insP x L).Pairwise leP
  | [], _ => List.pairwise_singleton _ _
  | y :: ys, h => by
    rw [List.pairwise_cons] at h
    unfold insP
    split
    · rename_i hc
      unfold ltP at hc
      have hxy : leP y x := by
        by_cases e : y.1 = x.1
        · rw [if_pos e, decide_eq_true_eq] at hc; exact .inr ⟨e, by omega⟩
        · rw [if_neg e, decide_eq_true_eq] at hc; exact .inl hc
      rw [List.pairwise_cons]
      refine ⟨fun z hz => ?_, insP_sorted x ys h.2⟩
      rcases List.mem_cons.mp ((insP_perm x ys).mem_iff.mp hz) with hz | hz
      · rw [hz]; exact hxy
      · exact h.1 z hz
    · rename_i hc
      unfold ltP at hc
      have hxy : leP x y := by
        by_cases e : y.1 = x.1
        · rw [if_pos e, decide_eq_true_eq] at hc; exact .inr ⟨e.symm, by omega⟩
        · rw [if_neg e, decide_eq_true_eq] at hc; exact .inl (by omega)
      rw [List.pairwise_cons, List.pairwise_cons]
      refine ⟨fun z hz => ?_, h⟩
      rcases List.mem_cons.mp hz with hz | hz
      · rw [hz]; exact hxy
      · have := h.1 z hz
        unfold leP at *
        omega
theorem sortP_sorted : ∀ L : List (Int × Int), (sortP L).Pairwise leP
  | [] => .nil
  | x :: xs => insP_sorted x _ (sortP_sorted xs)
theorem leP_anti (p q : Int × Int) (h1 : leP p q) (h2 : leP q p) : p = q := by
  obtain ⟨a, b⟩ := p
  obtain ⟨c, d⟩ := q
  unfold leP at h1 h2
  simp only at h1 h2
  have : a = c ∧ b = d := by omega
  rw [this.1, this.2]
theorem sortP_uniq {L M : List (Int × Int)} (h : L.Perm M) (hM : M.Pairwise leP) : sortP L = M :=
  List.Perm.eq_of_pairwise (le := leP) (fun a b _ _ => leP_anti a b) (sortP_sorted L) hM ((sortP_perm L).trans h)
end Toy
end

section
set_option linter.all false
set_option autoImplicit false
set_option maxRecDepth 10000
namespace Toy
open Rf
variable (cf : Cf) (F : Nat)
theorem nd_perm {α : Type} [BEq α] [LawfulBEq α] : ∀ {l m : List α}, l.Nodup → (∀ x ∈ l, x ∈ m) → m.length ≤ l.length → l.Perm m
  | [], m, _, _, h => by
    have : m = [] := List.eq_nil_of_length_eq_zero (Nat.le_zero.mp h)
    rw [this]
  | x :: l, m, nd, hs, h => by
    rw [List.nodup_cons] at nd
    have hx := hs x List.mem_cons_self
    have e := List.length_erase_of_mem hx
    rw [List.length_cons] at h
    have ih := nd_perm (l := l) (m := m.erase x) nd.2 (fun y hy => (List.mem_erase_of_ne (fun e => nd.1 (by rw [← e]; exact hy))).mpr (hs y (List.mem_cons_of_mem _ hy))) (by omega)
    exact (ih.cons x).trans (List.perm_cons_erase hx).symm
theorem promL {n : Int} {ps : List (Int × Int)} {r : List Int} (L : Lin n ps r) : Lin n ps (promR ps r) := by
  rw [prom_along L]
  exact (lalong_eq _ L fun k hk => by rw [List.mem_range] at hk; omega).2
theorem slid_sorted {n : Int} {ps : List (Int × Int)} {r : List Int} (L : Lin n ps r) : sortD (r.map fun w => D.tup [.int (slF n r (pathR ps r) w), .int w]) = (List.range r.length).zipWith (fun (j : Nat) (w : Int) => D.tup [.int (j : Int), .int w]) (promR ps r) := by
  have hl := promR_length ps r L.pos
  let M : List (Int × Int) := (List.range r.length).zipWith (fun (j : Nat) (w : Int) => ((j : Int), w)) (promR ps r)
  have hMl : M.length = r.length := by simp [M, hl]
  have hMg : ∀ (j : Nat) (x : Int × Int), M[j]? = some x → x.1 = (j : Int) ∧ (promR ps r)[j]? = some x.2 := fun j x hx => by
    simp only [M, List.getElem?_zipWith] at hx
    cases h1 : (List.range r.length)[j]? with
    | none => rw [h1] at hx; cases h2 : (promR ps r)[j]? <;> rw [h2] at hx <;> cases hx
    | some k =>
      cases h2 : (promR ps r)[j]? with
      | none => rw [h1, h2] at hx; cases hx
      | some b =>
        rw [h1, h2] at hx
        cases hx
        obtain ⟨l, e⟩ := List.getElem?_eq_some_iff.mp h1
        rw [List.getElem_range] at e
        exact ⟨by rw [e], rfl⟩
  have hMs : M.Pairwise leP := by
    rw [List.pairwise_iff_getElem]
    intro i j hi hj hij
    have h1 := (hMg i _ (List.getElem?_eq_getElem hi)).1
    have h2 := (hMg j _ (List.getElem?_eq_getElem hj)).1
    left
    omega
  have hMn : M.Nodup := by
    rw [List.nodup_iff_pairwise_ne, List.pairwise_iff_getElem]
    intro i j hi hj hij e
    have h1 := (hMg i _ (List.getElem?_eq_getElem hi)).1
    have h2 := (hMg j _ (List.getElem?_eq_getElem hj)).1
    rw [e] at h1
    omega
  have hpp : ∀ x ∈ promR ps r, x ∈ r := fun x hx => by
    exact (L.mem x).mpr (((promL L).mem x).mp hx)
  have hperm : (r.map fun w => (slF n r (pathR ps r) w, w)).Perm M := by
    refine (nd_perm hMn (fun x hx => ?_) (by rw [List.length_map, hMl]; exact Nat.le_refl _)).symm
    obtain ⟨j, hj⟩ := List.getElem?_of_mem hx
    obtain ⟨h1, h2⟩ := hMg j x hj
    refine List.mem_map.mpr ⟨x.2, hpp _ (List.mem_of_getElem? h2), ?_⟩
    rw [slF_at L j x.2 h2, ← h1]
  have e1 : (r.map fun w => D.tup [.int (slF n r (pathR ps r) w), .int w]) = (r.map fun w => (slF n r (pathR ps r) w, w)).map pr := by rw [List.map_map]; rfl
  rw [e1, sortP_map, sortP_uniq hperm hMs]
  simp only [M, List.map_zipWith]
end Toy
end

section
set_option linter.all false
set_option autoImplicit false
set_option maxRecDepth 10000
namespace Toy
open Rf
mutual
theorem same_refl : ∀ d : D, D.same d d = true
  | .non => rfl
  | .bl a => by simp [D.same]
  | .int a => by simp [D.same]
  | .str a => by simp [D.same]
  | .rep a => by unfold D.same; exact same_refl a
  | .lst a => by unfold D.same; exact same_reflL a
  | .tup a => by unfold D.same; exact same_reflL a
  | .dct s a => by unfold D.same; rw [same_reflP a]; simp
  | .src => rfl
theorem same_reflL : ∀ l : List D, D.sameL l l = true
  | [] => rfl
  | x :: xs => by unfold D.sameL; rw [same_refl x, same_reflL xs]; rfl
theorem same_reflP : ∀ l : List (D × D), D.sameP l l = true
  | [] => rfl
  | (a, b) :: xs => by unfold D.sameP; rw [same_refl a, same_refl b, same_reflP xs]; rfl
end
theorem eqD_rep (x : D) : eqD (.rep x) (.rep x) = some true := by
  show (if D.same x x = true then some true else none) = _
  rw [same_refl, if_pos rfl]
/-- small numbers -/
def sml (i : Int) : Prop := i.natAbs < 2 ^ 64
theorem rsz_int {i : Int} (h : sml i) : D.rsz (.int i) = 70 := by unfold sml at h; simp [D.rsz, h]
theorem rsz_ints : ∀ {r : List Int}, (∀ i ∈ r, sml i) → D.rszL (r.map .int) = 72 * r.length
  | [], _ => rfl
  | i :: r, h => by
    rw [List.map_cons, D.rszL, rsz_int (h i List.mem_cons_self), rsz_ints fun j hj => h j (List.mem_cons_of_mem _ hj), List.length_cons]; omega
theorem rsz_pr {p : Int × Int} (h1 : sml p.1) (h2 : sml p.2) : D.rsz (pr p) = 147 := by
  simp only [D.rsz, D.rszL]
  have a := rsz_int h1
  have b := rsz_int h2
  simp only [D.rsz] at a b
  rw [a, b]
theorem rsz_prs : ∀ {ps : List (Int × Int)}, (∀ p ∈ ps, sml p.1 ∧ sml p.2) → D.rszL (ps.map pr) = 149 * ps.length
  | [], _ => rfl
  | p :: ps, h => by
    obtain ⟨h1, h2⟩ := h p List.mem_cons_self
    rw [List.map_cons, D.rszL, rsz_pr h1 h2, rsz_prs fun j hj => h j (List.mem_cons_of_mem _ hj), List.length_cons]; omega
theorem Lin.sm {n : Int} {ps : List (Int × Int)} {r : List Int} (L : Lin n ps r) : ∀ i ∈ r, sml i := fun i hi => by
  have h1 := (L.mem i).mp hi
  have h2 := L.len
  have h3 := L.small
  unfold sml
  omega
theorem shp_rowK (r : List Int) (k : Nat) : D.shp (rowD r) (k + 1) = true := by
  cases k with
  | zero => show D.shpL (r.map .int) 0 = true; induction r with
    | nil => rfl
    | cons i r ih => simp only [List.map_cons, D.shpL, D.shp, ih, Bool.and_self]
  | succ k => exact shp_intsK k r
theorem repr_row {n : Int} {ps : List (Int × Int)} {r : List Int} (L : Lin n ps r) : biD .repr [rowD r] = some (.rep (rowD r)) := by
  have h1 : D.shp (rowD r) 50 = true := shp_rowK r 49
  have h2 : D.rsz (rowD r) = 72 * r.length + 3 := by show D.rszL (r.map .int) + 3 = _; rw [rsz_ints L.sm]
  have h3 := L.small
  rw [b_repr_, h1, h2, if_pos]
  rw [Bool.true_and, decide_eq_true_eq]; omega
theorem repr_rows {n : Int} {ps : List (Int × Int)} {r : List Int} (L : Lin n ps r) (p : List Int) (hp : p.length ≤ 100) (hs : ∀ i ∈ p, sml i) : biD .repr [.lst [rowD p, rowD r]] = some (.rep (.lst [rowD p, rowD r])) := by
  have h1 : D.shp (.lst [rowD p, rowD r]) 50 = true := by
    show (D.shp (rowD p) 49 && (D.shp (rowD r) 49 && true)) = true
    rw [shp_rowK p 48, shp_rowK r 48]; rfl
  have h2 : D.rsz (.lst [rowD p, rowD r]) = 72 * p.length + 3 + 2 + (72 * r.length + 3 + 2 + 0) + 3 := by
    show D.rszL (p.map .int) + 3 + 2 + (D.rszL (r.map .int) + 3 + 2 + 0) + 3 = _
    rw [rsz_ints L.sm, rsz_ints hs]
  have h3 := L.small
  rw [b_repr_, h1, h2, if_pos]
  rw [Bool.true_and, decide_eq_true_eq]; omega
theorem repr_ord {n : Int} {ps : List (Int × Int)} {r : List Int} (L : Lin n ps r) (hf : ps.length ≤ 10000) : biD .repr [.lst [ordD n ps, rowD r]] = some (.rep (.lst [ordD n ps, rowD r])) := by
  have hn : sml n := by have h1 := L.len; have h2 := L.small; unfold sml; omega
  have hps : ∀ p ∈ ps, sml p.1 ∧ sml p.2 := fun p hp => ⟨L.sm _ (L.pm p hp).1, L.sm _ (L.pm p hp).2⟩
  have h1 : D.shp (.lst [ordD n ps, rowD r]) 50 = true := by
    show ((D.shp (.int n) 48 && (D.shpL (ps.map pr) 47 && true)) && (D.shp (rowD r) 49 && true)) = true
    rw [shp_rowK r 48, shp_prK 46 ps]; rfl
  have h2 : D.rsz (.lst [ordD n ps, rowD r]) = (70 + 2 + (149 * ps.length + 3 + 2 + 0) + 3) + 2 + (72 * r.length + 3 + 2 + 0) + 3 := by
    show (D.rsz (.int n) + 2 + (D.rszL (ps.map pr) + 3 + 2 + 0) + 3) + 2 + (D.rszL (r.map .int) + 3 + 2 + 0) + 3 = _
    rw [rsz_ints L.sm, rsz_prs hps, rsz_int hn]
  have h3 := L.small
  rw [b_repr_, h1, h2, if_pos]
  rw [Bool.true_and, decide_eq_true_eq]; omega
theorem eqv_ints (r : List Int) : D.eqvL (r.map .int) (r.map .int) = true := by
  induction r with
  | nil => rfl
  | cons i r ih => simp [D.eqvL, D.eqv, ih]
theorem eqD_row (r : List Int) : eqD (rowD r) (rowD r) = some true := by
  have h1 : D.shp (rowD r) 60 = true := shp_rowK r 59
  have h2 : D.eqv (rowD r) (rowD r) = true := eqv_ints r
  show (if (D.shp (rowD r) 60 && D.shp (rowD r) 60) = true then some (D.eqv (rowD r) (rowD r)) else none) = _
  rw [h1, h2]; rfl
end Toy
end

section
set_option linter.all false
set_option autoImplicit false
set_option maxRecDepth 10000
namespace Toy
open Rf
theorem bind_2 {i j : Nat} {a b : D} {env : Env} (h : ∀ d, env[i]? ≠ some (some (true, d))) (h2 : ∀ d, env[j]? ≠ some (some (true, d))) : bindT (.tp [.nm i, .nm j]) (.tup [a, b]) env = some ((env.set i (some (false, a))).set j (some (false, b))) := by
  unfold bindT
  unfold bindTs
  rw [bind_nm h]
  simp only
  unfold bindTs
  rw [bind_nm]
  · unfold bindTs; rfl
  · intro d
    rw [List.getElem?_set]
    split
    · split
      · intro e; cases e
      · intro e; cases e
    · exact h2 d
theorem noOwn_1 {i : Nat} {env : Env} (h : ∀ d, env[i]? ≠ some (some (true, d))) : noOwn [i] env = true := by
  show ((match env[i]? with | some (some (true, _)) => false | _ => true) && true) = true
  rw [Bool.and_true]
  split
  · rename_i d e; exact absurd e (h d)
  · rfl
theorem nOw_v (d : D) : nOw (some (false, d)) := fun d h => by cases h
theorem nats_rev (ks : List Nat) : (natsD ks).reverse = natsD ks.reverse := List.map_reverse.symm
theorem OrdOk.lin {n : Int} {ps : List (Int × Int)} {R : List Int} (O : OrdOk n ps R) : Lin n ps R := ⟨O.len, O.pos, O.small, O.nd, O.mem, O.ext⟩
theorem cut_from (xs : List D) (k : Nat) : cutL xs (some (k : Int)) none = xs.drop k := by
  have h1 : cutAt xs.length 0 (some (k : Int)) = min k xs.length := by
    show (if (k : Int) < 0 then ((k : Int) + (xs.length : Int)).toNat else min (k : Int).toNat xs.length) = _
    rw [if_neg (by omega)]; simp
  have h2 : cutAt xs.length xs.length none = xs.length := rfl
  unfold cutL
  rw [h1, h2]
  by_cases h : k ≤ xs.length
  · rw [Nat.min_eq_left h]
    exact List.take_of_length_le (by rw [List.length_drop]; exact Nat.le_refl _)
  · have e1 : xs.drop k = [] := List.drop_of_length_le (by omega)
    rw [Nat.min_eq_right (by omega), e1]
    simp
theorem along_there (ps : List (Int × Int)) (r : List Int) : alongR ps (demR ps r) (List.range (r.length - 1)) = r := by
  have h := along_back ps (List.range (r.length - 1)).reverse r (fun k hk => by simp at hk; omega)
  rw [List.reverse_reverse] at h
  exact h
theorem demL {n : Int} {ps : List (Int × Int)} {r : List Int} (L : Lin n ps r) : Lin n ps (demR ps r) := (lalong_eq _ L (fun k hk => by simp at hk; omega)).2
theorem prom_dem {n : Int} {ps : List (Int × Int)} {r : List Int} (L : Lin n ps r) : promR ps (demR ps r) = r := by
  rw [prom_along (demL L), demR_length, along_there]
theorem dem_prom {n : Int} {ps : List (Int × Int)} {r : List Int} (L : Lin n ps r) : demR ps (promR ps r) = r := by
  have hl := promR_length ps r L.pos
  rw [prom_along L] at hl ⊢
  unfold demR
  rw [hl]
  exact along_back ps _ r (fun k hk => by simp at hk; omega)
theorem oftL {n : Int} {ps : List (Int × Int)} (up : Bool) : ∀ (k : Nat) {r : List Int}, Lin n ps r → Lin n ps (oftenS ps up r k)
  | 0, _, L => L
  | k + 1, r, L => by
    show Lin n ps (oftenS ps up (if up then promR ps r else demR ps r) k)
    cases up
    · exact oftL false k (demL L)
    · exact oftL true k (promL L)
end Toy
end

section
set_option linter.all false
set_option autoImplicit false
set_option maxRecDepth 10000
namespace Toy
open Rf
/-! words of swaps -/
theorem range_dn {a b : Int} {k : Nat} (hb : b = a + 1) (h : k ≤ 1000) (ha : a.natAbs ≤ 1000) : rangeD (a + k) a (-1) = some ((List.range k).reverse.map fun (i : Nat) => D.int (b + (i : Int))) := by
  subst hb
  unfold rangeD
  rw [if_pos ⟨by decide, by decide, by omega, by omega⟩]
  have e : (if (-1 : Int) > 0 then (if (a + k : Int) < a then (a - (a + k) - 1) / (-1) + 1 else 0) else if (a + k : Int) > a then ((a + k) - a - 1) / (-(-1)) + 1 else 0).toNat = k := by
    rw [if_neg (by decide)]
    split
    · have : (-(-1) : Int) = 1 := by decide
      rw [this, Int.ediv_one]; omega
    · omega
  simp only [e]
  rw [if_pos (show k ≤ szLine from Nat.le_trans h (by decide))]
  congr 1
  apply List.ext_getElem
  · simp
  · intro i h1 h2
    simp only [List.length_map, List.length_range] at h1
    simp only [List.getElem_map, List.getElem_range, List.getElem_reverse, List.length_range, D.int.injEq]
    omega
def far (x y : Nat) : Bool := decide (x + 2 ≤ y) || decide (y + 2 ≤ x)
def canc (x : Nat) : List Nat → Option (List Nat)
  | [] => none
  | y :: ys => if x = y then some ys else if far x y = true then (canc x ys).map (y :: ·) else none
def pushW (st : List Nat) (x : Nat) : List Nat := match canc x st with | some z => z | none => x :: st
def normW (w : List Nat) : List Nat := w.foldl pushW []
theorem along_app (ps : List (Int × Int)) (r : List Int) (a b : List Nat) : alongR ps r (a ++ b) = alongR ps (alongR ps r a) b := List.foldl_append
theorem along_rev (ps : List (Int × Int)) (r : List Int) (y : Nat) (ys : List Nat) : alongR ps r (y :: ys).reverse = swapR ps (alongR ps r ys.reverse) y := by
  rw [List.reverse_cons, along_app]; rfl
theorem canc_act (ps : List (Int × Int)) {m x : Nat} (hx : x + 1 < m) : ∀ (st st' : List Nat), canc x st = some st' → (∀ k ∈ st, k + 1 < m) → ∀ r : List Int, r.length = m → swapR ps (alongR ps r st.reverse) x = alongR ps r st'.reverse ∧ (∀ k ∈ st', k + 1 < m)
  | [], st', h, _, r, hr => by cases h
  | y :: ys, st', h, hv, r, hr => by
    have hy := hv y List.mem_cons_self
    have hv2 : ∀ k ∈ ys, k + 1 < m := fun k hk => hv k (List.mem_cons_of_mem _ hk)
    have hq : (alongR ps r ys.reverse).length = m := by rw [alongR_length ps _ r (fun k hk => by rw [hr]; exact hv2 k (List.mem_reverse.mp hk)), hr]
    rw [along_rev]
    unfold canc at h
    split at h
    · rename_i e
      cases h
      subst e
      exact ⟨swap_two ps _ x (by rw [hq]; exact hx), hv2⟩
    · split at h
      · rename_i hf
        cases hc : canc x ys with
        | none => rw [hc] at h; cases h
        | some z =>
          rw [hc] at h
          cases h
          obtain ⟨e1, e2⟩ := canc_act ps hx ys z hc hv2 r hr
          refine ⟨?_, fun k hk => ?_⟩
          · rw [along_rev, ← e1]
            unfold far at hf
            rw [Bool.or_eq_true, decide_eq_true_eq, decide_eq_true_eq] at hf
            rcases hf with hf | hf
            · exact (swap_comm ps _ x y (by omega) (by omega) hf).symm
            · exact swap_comm ps _ y x (by omega) (by omega) hf
          · rcases List.mem_cons.mp hk with rfl | hk
            · exact hy
            · exact e2 k hk
      · cases h
theorem push_act (ps : List (Int × Int)) {m x : Nat} (hx : x + 1 < m) (st : List Nat) (hv : ∀ k ∈ st, k + 1 < m) (r : List Int) (hr : r.length = m) : swapR ps (alongR ps r st.reverse) x = alongR ps r (pushW st x).reverse ∧ (∀ k ∈ pushW st x, k + 1 < m) := by
  unfold pushW
  split
  · rename_i z h
    exact canc_act ps hx st z h hv r hr
  · refine ⟨(along_rev ps r x st).symm, fun k hk => ?_⟩
    rcases List.mem_cons.mp hk with rfl | hk
    · exact hx
    · exact hv k hk
theorem norm_act (ps : List (Int × Int)) {m : Nat} : ∀ (w st : List Nat), (∀ k ∈ w, k + 1 < m) → (∀ k ∈ st, k + 1 < m) → ∀ r : List Int, r.length = m → alongR ps (alongR ps r st.reverse) w = alongR ps r (w.foldl pushW st).reverse
  | [], st, _, _, r, _ => rfl
  | x :: w, st, hw, hv, r, hr => by
    obtain ⟨e1, e2⟩ := push_act ps (hw x List.mem_cons_self) st hv r hr
    show alongR ps (swapR ps (alongR ps r st.reverse) x) w = _
    rw [e1]
    exact norm_act ps w (pushW st x) (fun k hk => hw k (List.mem_cons_of_mem _ hk)) e2 r hr
theorem word_id (ps : List (Int × Int)) {w : List Nat} {r : List Int} (h : normW w = []) (hv : ∀ k ∈ w, k + 1 < r.length) : alongR ps r w = r := by
  have := norm_act ps (m := r.length) w [] hv (fun k hk => by cases hk) r rfl
  rw [show w.foldl pushW [] = normW w from rfl, h] at this
  exact this
/-- one word leads where another leads -/
theorem word_eq (ps : List (Int × Int)) {w v : List Nat} {r : List Int} (h : normW (w ++ v.reverse) = []) (hw : ∀ k ∈ w, k + 1 < r.length) (hv : ∀ k ∈ v, k + 1 < r.length) : alongR ps r w = alongR ps r v := by
  have h1 := word_id ps (r := r) h (fun k hk => by
    rcases List.mem_append.mp hk with hk | hk
    · exact hw k hk
    · exact hv k (List.mem_reverse.mp hk))
  rw [along_app] at h1
  have hl := alongR_length ps w r hw
  have h2 := along_back ps v.reverse (alongR ps r w) (fun k hk => by rw [hl]; exact hv k (List.mem_reverse.mp hk))
  rw [h1, List.reverse_reverse] at h2
  exact h2.symm
def proW (n : Nat) : List Nat := List.range (n - 1)
def upW (n : Nat) : List Nat := (List.range (n - 1)).reverse.flatMap fun i => List.range (i + 1)
def downW (n : Nat) : List Nat := (upW n).map fun i => n - 2 - i
def oftW (n : Nat) : Nat → List Nat
  | 0 => []
  | k + 1 => proW n ++ oftW n k
def chkW (n : Nat) : Bool :=
  (normW (upW n ++ upW n)).isEmpty && (normW (downW n ++ downW n)).isEmpty && (normW ((upW n ++ (proW n ++ upW n)) ++ (proW n).reverse.reverse)).isEmpty &&
  (normW ((downW n ++ (proW n ++ downW n)) ++ (proW n).reverse.reverse)).isEmpty && (normW (oftW n n ++ (upW n ++ downW n).reverse)).isEmpty && (normW (oftW n n ++ (downW n ++ upW n))).isEmpty
theorem chk_all : ∀ n ∈ List.range 11, chkW n = true := by decide +kernel
theorem chk_at {n : Nat} (h : n ≤ 10) : normW (upW n ++ upW n) = [] ∧ normW (downW n ++ downW n) = [] ∧ normW ((upW n ++ (proW n ++ upW n)) ++ (proW n).reverse.reverse) = [] ∧ normW ((downW n ++ (proW n ++ downW n)) ++ (proW n).reverse.reverse) = [] ∧ normW (oftW n n ++ (upW n ++ downW n).reverse) = [] ∧ normW (oftW n n ++ (downW n ++ upW n)) = [] := by
  have h1 := chk_all n (List.mem_range.mpr (by omega))
  unfold chkW at h1
  simp only [Bool.and_eq_true, List.isEmpty_iff] at h1
  obtain ⟨⟨⟨⟨⟨a, b⟩, c⟩, d⟩, e⟩, f⟩ := h1
  exact ⟨a, b, c, d, e, f⟩
theorem proW_ok {n k : Nat} (h : k ∈ proW n) : k + 1 < n := by
  unfold proW at h; rw [List.mem_range] at h; omega
theorem upW_ok {n k : Nat} (h : k ∈ upW n) : k + 1 < n := by
  unfold upW at h
  obtain ⟨i, hi, hk⟩ := List.mem_flatMap.mp h
  rw [List.mem_reverse, List.mem_range] at hi
  rw [List.mem_range] at hk
  omega
theorem downW_ok {n k : Nat} (h : k ∈ downW n) : k + 1 < n := by
  unfold downW at h
  obtain ⟨i, hi, rfl⟩ := List.mem_map.mp h
  have := upW_ok hi
  omega
theorem oftW_ok {n : Nat} : ∀ {j k : Nat}, k ∈ oftW n j → k + 1 < n
  | 0, k, h => by cases h
  | j + 1, k, h => by
    rcases List.mem_append.mp (show k ∈ proW n ++ oftW n j from h) with h | h
    · exact proW_ok h
    · exact oftW_ok h
theorem oft_act {n : Int} {ps : List (Int × Int)} {m : Nat} : ∀ (k : Nat) {r : List Int}, Lin n ps r → r.length = m → oftenS ps true r k = alongR ps r (oftW m k)
  | 0, r, L, hm => rfl
  | k + 1, r, L, hm => by
    show oftenS ps true (promR ps r) k = _
    have hl := promR_length ps r L.pos
    rw [oft_act k (promL L) (by omega), prom_along L, hm]
    show _ = alongR ps r (proW m ++ oftW m k)
    rw [along_app]; rfl
theorem flat_len (f : Nat → List Nat) : ∀ (xs : List Nat), (∀ i ∈ xs, (f i).length ≤ 100) → (xs.flatMap f).length ≤ 100 * xs.length
  | [], _ => by simp
  | x :: xs, h => by
    have := flat_len f xs fun i hi => h i (List.mem_cons_of_mem _ hi)
    have := h x List.mem_cons_self
    rw [List.flatMap_cons, List.length_append, List.length_cons]; omega
theorem upW_len {n : Nat} (h : n ≤ 100) : (upW n).length ≤ 10000 := by
  have := flat_len (fun i => List.range (i + 1)) (List.range (n - 1)).reverse (fun i hi => by rw [List.mem_reverse, List.mem_range] at hi; rw [List.length_range]; omega)
  rw [List.length_reverse, List.length_range] at this
  unfold upW
  omega
theorem downW_len {n : Nat} (h : n ≤ 100) : (downW n).length ≤ 10000 := by
  unfold downW; rw [List.length_map]; exact upW_len h
end Toy
end

section
set_option linter.all false
set_option autoImplicit false
set_option maxRecDepth 10000
namespace Toy
open Rf
theorem prom_along0 (ps : List (Int × Int)) {r : List Int} (h0 : 0 < r.length) (nd : r.Nodup) (pw : r.Pairwise (fun x y => ps.contains (y, x) = false)) : promR ps r = alongR ps r (List.range (r.length - 1)) := by
  cases r with
  | nil => exact absurd h0 (by simp)
  | cons c ws =>
    obtain ⟨h1, h2⟩ := prom_car ps ws [c] [] c (by simp) rfl nd pw
    have h3 := along_car ps ws [] c
    have e : List.range ((c :: ws).length - 1) = List.range' ([] : List Int).length ws.length := by rw [List.range_eq_range']; rfl
    rw [e]
    show _ = alongR ps ([] ++ c :: ws) _
    rw [h3]
    unfold promR pathR
    simp only [List.drop_succ_cons, List.drop_zero, List.take_succ_cons, List.take_zero]
    simp only [List.length_cons, List.length_nil] at h1
    rw [← h1, h2]
theorem swap_pre (ps : List (Int × Int)) (p q : List Int) (k : Nat) (h : k + 1 < p.length) : swapR ps (p ++ q) k = swapR ps p k ++ q := by
  have e1 : (p ++ q).getD k 0 = p.getD k 0 := by rw [getD_of, getD_of, List.getElem?_append_left (by omega)]
  have e2 : (p ++ q).getD (k + 1) 0 = p.getD (k + 1) 0 := by rw [getD_of, getD_of, List.getElem?_append_left (by omega)]
  rw [swapR_late, swapR_late, e1, e2]
  split
  · unfold late
    rw [e1, e2, List.take_append_of_le_length (by omega), List.drop_append_of_le_length (by omega)]
    simp
  · rfl
theorem along_pre (ps : List (Int × Int)) : ∀ (ks : List Nat) (p q : List Int), (∀ k ∈ ks, k + 1 < p.length) → alongR ps (p ++ q) ks = alongR ps p ks ++ q
  | [], p, q, _ => rfl
  | k :: ks, p, q, h => by
    have hk := h k List.mem_cons_self
    show alongR ps (swapR ps (p ++ q) k) ks = alongR ps (swapR ps p k) ks ++ q
    rw [swap_pre ps p q k hk]
    exact along_pre ps ks _ q fun j hj => by rw [swapR_length ps p k hk]; exact h j (List.mem_cons_of_mem _ hj)
/-- the first so many works promoted -/
theorem prom_part {n : Int} {ps : List (Int × Int)} {r : List Int} (L : Lin n ps r) (i : Nat) (hi : i + 2 ≤ r.length) : promR ps (r.take (i + 2)) ++ r.drop (i + 2) = alongR ps r (List.range (i + 1)) ∧ Lin n ps (alongR ps r (List.range (i + 1))) := by
  have hl : (r.take (i + 2)).length = i + 2 := by rw [List.length_take]; omega
  refine ⟨?_, (lalong_eq _ L (fun k hk => by rw [List.mem_range] at hk; omega)).2⟩
  rw [prom_along0 ps (by omega) (L.nd.sublist (List.take_sublist _ _)) (L.pw.sublist (List.take_sublist _ _)), hl]
  have := along_pre ps (List.range (i + 1)) (r.take (i + 2)) (r.drop (i + 2)) (fun k hk => by rw [List.mem_range] at hk; omega)
  rw [List.take_append_drop] at this
  exact this.symm
variable (cf : Cf) (F : Nat)
theorem m_ext1 {cf : Cf} {ff : Bool} {F i : Nat} {x : Ex} {env env1 : Env} {s s1 : Sr} {ys ys1 zs : List D} (h0 : env[i]? = some (some (true, .lst ys))) (h1 : evOs cf [x] env s = some ([.lst zs], env1, s1)) (h2 : env1[i]? = some (some (true, .lst ys1))) (hl : ys1.length + zs.length ≤ szLine) :
    evS cf ff F (.ext i [x]) env s = some (.nx (env1.set i (some (true, .lst (ys1 ++ zs)))) s1) := by
  have ho : ownL env i = true := by unfold ownL; rw [h0]
  simp only [evS, ho, if_true, h1, h2, hl]
theorem evac_for (n : D) (ff : Bool) : ∀ (is acc : List Nat) (y : Option (Bool × D)) (s : Sr), (∀ i ∈ is, i < 100) → acc.length + 100 * is.length ≤ 20000 → nOw y →
    ∃ y', forT (forB cf ff F (.nm 2) [.ext 1 [.bi .lrange1 [.bor 2]]]) (is.map fun (i : Nat) => D.int (1 + (i : Int))) [some (false, n), some (true, .lst (natsD acc)), y] s = some (.nx [some (false, n), some (true, .lst (natsD (acc ++ is.flatMap fun i => List.range (i + 1)))), y'] s)
  | [], acc, y, s, _, _, _ => ⟨y, by rw [List.flatMap_nil, List.append_nil]; rfl⟩
  | i :: is, acc, y, s, hi, hl, hy => by
    have h1 := hi i List.mem_cons_self
    rw [List.length_cons] at hl
    obtain ⟨y', ih⟩ := evac_for n ff is (acc ++ List.range (i + 1)) (some (false, .int (1 + (i : Int)))) s (fun j hj => hi j (List.mem_cons_of_mem _ hj)) (by rw [List.length_append, List.length_range]; omega) (nOw_v _)
    refine ⟨y', (f_step ?_).trans (ih.trans (by rw [List.flatMap_cons, List.append_assoc]))⟩
    unfold forB
    rw [bind_nm (fun d h => hy d (by simpa using h))]
    have e : (1 + (i : Int)) = ((i + 1 : Nat) : Int) := by omega
    have hr : rangeD 0 (1 + (i : Int)) 1 = some (natsD (List.range (i + 1))) := by rw [e]; exact range_up (by omega)
    have hx := m_ext1 (cf := cf) (ff := ff) (F := F) (i := 1) (x := .bi .lrange1 [.bor 2]) (env := [some (false, n), some (true, .lst (natsD acc)), some (false, .int (1 + (i : Int)))]) (env1 := [some (false, n), some (true, .lst (natsD acc)), some (false, .int (1 + (i : Int)))]) (s := s) (s1 := s) (ys := natsD acc) (ys1 := natsD acc) (zs := natsD (List.range (i + 1))) rfl (by simp only [run_f, s_st, s_nil', k_nx, k_rt, k_bk, k_ct, m_asg, m_asgO, m_asgT, m_par, m_set, m_app, m_expr, m_ite, m_for, m_ret, m_sput, m_sfill, v_var, v_bor, v_int, v_bl, v_str, v_non, v_sget, v_not, v_and, v_or, v_ife, v_tup, v_lst, v_dnew, v_call, v_bi, v_comp, o_nil', o_bor, e_nil, e_star, t_nil', t_ex, c_turn, asB, asI, isSrc, outR, bindT, bindTs, putsE, fr, szLine, List.length_cons, List.length_nil, List.map_cons, List.map_nil, List.cons_append, List.nil_append, List.append_nil, List.getElem?_cons_zero, List.getElem?_cons_succ, List.set_cons_zero, List.set_cons_succ, List.replicate_zero, List.replicate_succ, List.getD_cons_zero, Nat.reduceSub, Nat.reduceAdd, Option.bind_some, Option.bind_none, Option.map_some, if_true, if_false, Bool.and_true, Bool.true_and, Bool.not_true, Bool.not_false, Bool.or_true, Bool.true_or, Bool.false_or, Bool.or_false, Bool.and_false, Bool.false_and, Bool.and_self, Bool.or_self, Bool.false_eq_true, startE, reduceCtorEq, List.contains_nil, List.contains_cons, Nat.reduceBEq, ite_self, Nat.reduceLeDiff, Nat.reduceEqDiff, Int.reduceLE, Int.reduceLT, Int.reduceNeg, Int.reduceAdd, Int.reduceSub, ↓reduceIte, decide_true, decide_false, true_or, or_true, or_false, false_or, or_self, not_true_eq_false, not_false_eq_true, if_true, itemsL_, itemsT_, o_var_, e_var_, o_mv_, e_mv_, o_rel_, e_rel_, o_int_, e_int_, o_bl_, e_bl_, o_str_, e_str_, o_non_, e_non_, o_not_, e_not_, o_and_, e_and_, o_or_, e_or_, o_ife_, e_ife_, o_tup_, e_tup_, o_lst_, e_lst_, o_dnew_, e_dnew_, o_call_, e_call_, o_bi_, e_bi_, o_pop_, e_pop_, o_popAt_, e_popAt_, o_sget_, e_sget_, o_comp_, e_comp_, e_bor_, b_add_, b_addT_, b_addL_, b_sub_, b_mod_, b_fdiv_, b_cmp_, b_neg_, b_idxL_, b_idxT_, b_idxD_, b_slcTt_, b_slcTf_, b_slcLt_, b_slcLf_, b_revL_, b_lenL_, b_lenT_, b_abs_, b_toint_, b_totupL_, b_totupT_, b_tolstL_, b_tolstT_, b_repr_, b_lr1_, b_lr2_, b_lr3_, b_clt_, b_cle_, b_cgt_, b_cge_, b_ceq_, b_cne_, b_cin_, b_cni_, b_badbin_, b_badcmp_, b_wseqL_, b_wseqT_, b_wr1_, b_wr2_, b_wr3_, b_wenL_, b_wenT_, bad_neg_, bad_idx_, bad_rev_, bad_cnt_, bad_len_, bad_sum_, bad_max1_, bad_min1_, bad_max2_, bad_min2_, bad_abs_, bad_toint_, bad_totup_, bad_tolst_, bad_sorted_, bad_repr_, bad_mint_, bad_any_, bad_all_, bad_lrange1_, bad_lrange2_, bad_lrange3_, bad_slc_, bad_dict_, bad_ixL_, bad_ixT_, p20, p21, p10, p30, p31, p32, rd0_, rv0_, ro0_, rl0_, rd1_, rv1_, ro1_, rl1_, rd2_, rv2_, ro2_, rl2_, rd3_, rv3_, ro3_, rl3_, rd4_, rv4_, ro4_, rl4_, rd5_, rv5_, ro5_, rl5_, rd6_, rv6_, ro6_, rl6_, rd7_, rv7_, ro7_, rl7_, rd8_, rv8_, ro8_, rl8_, rd9_, rv9_, ro9_, rl9_, rd10_, rv10_, ro10_, rl10_, rd11_, rv11_, ro11_, rl11_, rd12_, rv12_, ro12_, rl12_, rd13_, rv13_, ro13_, rl13_, rd14_, rv14_, ro14_, rl14_, rd15_, rv15_, ro15_, rl15_, rd16_, rv16_, ro16_, rl16_, rd17_, rv17_, ro17_, rl17_, hr]) rfl (by rw [List.length_map, List.length_map, List.length_range]; have : szLine = 16777216 := rfl; omega)
    rw [← List.map_append] at hx
    simp only [Option.bind_some, s_st, List.set_cons_succ, List.set_cons_zero, s_nil']
    rw [hx]
    rfl
theorem evac_sw (m : Nat) (h1 : 1 ≤ m) (h2 : m ≤ 100) (s : Sr) : runF cf F d_evacuating_swaps [.int m] s = some (.tup (natsD (upW m)), s) := by
  obtain ⟨y', e⟩ := evac_for cf F (.int m) false (List.range (m - 1)).reverse [] none s (fun i hi => by rw [List.mem_reverse, List.mem_range] at hi; omega) (by rw [List.length_nil, List.length_reverse, List.length_range]; omega) (fun d h => by cases h)
  have hm : (m : Int) - 1 = 0 + ((m - 1 : Nat) : Int) := by omega
  have hr := range_dn (a := 0) (b := 1) (k := m - 1) rfl (by omega) (by decide)
  rw [← hm] at hr
  rw [List.nil_append] at e
  have e' : forT (forB cf false F (.nm 2) [.ext 1 [.bi .lrange1 [.bor 2]]]) ((List.range (m - 1)).reverse.map fun (i : Nat) => D.int (1 + (i : Int))) [some (false, .int m), some (true, .lst []), none] s = _ := e
  simp only [run_f, s_st, s_nil', k_nx, k_rt, k_bk, k_ct, m_asg, m_asgO, m_asgT, m_par, m_set, m_app, m_expr, m_ite, m_for, m_ret, m_sput, m_sfill, v_var, v_bor, v_int, v_bl, v_str, v_non, v_sget, v_not, v_and, v_or, v_ife, v_tup, v_lst, v_dnew, v_call, v_bi, v_comp, o_nil', o_bor, e_nil, e_star, t_nil', t_ex, c_turn, asB, asI, isSrc, outR, bindT, bindTs, putsE, fr, szLine, List.length_cons, List.length_nil, List.map_cons, List.map_nil, List.cons_append, List.nil_append, List.append_nil, List.getElem?_cons_zero, List.getElem?_cons_succ, List.set_cons_zero, List.set_cons_succ, List.replicate_zero, List.replicate_succ, List.getD_cons_zero, Nat.reduceSub, Nat.reduceAdd, Option.bind_some, Option.bind_none, Option.map_some, if_true, if_false, Bool.and_true, Bool.true_and, Bool.not_true, Bool.not_false, Bool.or_true, Bool.true_or, Bool.false_or, Bool.or_false, Bool.and_false, Bool.false_and, Bool.and_self, Bool.or_self, Bool.false_eq_true, startE, reduceCtorEq, List.contains_nil, List.contains_cons, Nat.reduceBEq, ite_self, Nat.reduceLeDiff, Nat.reduceEqDiff, Int.reduceLE, Int.reduceLT, Int.reduceNeg, Int.reduceAdd, Int.reduceSub, ↓reduceIte, decide_true, decide_false, true_or, or_true, or_false, false_or, or_self, not_true_eq_false, not_false_eq_true, if_true, itemsL_, itemsT_, o_var_, e_var_, o_mv_, e_mv_, o_rel_, e_rel_, o_int_, e_int_, o_bl_, e_bl_, o_str_, e_str_, o_non_, e_non_, o_not_, e_not_, o_and_, e_and_, o_or_, e_or_, o_ife_, e_ife_, o_tup_, e_tup_, o_lst_, e_lst_, o_dnew_, e_dnew_, o_call_, e_call_, o_bi_, e_bi_, o_pop_, e_pop_, o_popAt_, e_popAt_, o_sget_, e_sget_, o_comp_, e_comp_, e_bor_, b_add_, b_addT_, b_addL_, b_sub_, b_mod_, b_fdiv_, b_cmp_, b_neg_, b_idxL_, b_idxT_, b_idxD_, b_slcTt_, b_slcTf_, b_slcLt_, b_slcLf_, b_revL_, b_lenL_, b_lenT_, b_abs_, b_toint_, b_totupL_, b_totupT_, b_tolstL_, b_tolstT_, b_repr_, b_lr1_, b_lr2_, b_lr3_, b_clt_, b_cle_, b_cgt_, b_cge_, b_ceq_, b_cne_, b_cin_, b_cni_, b_badbin_, b_badcmp_, b_wseqL_, b_wseqT_, b_wr1_, b_wr2_, b_wr3_, b_wenL_, b_wenT_, bad_neg_, bad_idx_, bad_rev_, bad_cnt_, bad_len_, bad_sum_, bad_max1_, bad_min1_, bad_max2_, bad_min2_, bad_abs_, bad_toint_, bad_totup_, bad_tolst_, bad_sorted_, bad_repr_, bad_mint_, bad_any_, bad_all_, bad_lrange1_, bad_lrange2_, bad_lrange3_, bad_slc_, bad_dict_, bad_ixL_, bad_ixT_, p20, p21, p10, p30, p31, p32, rd0_, rv0_, ro0_, rl0_, rd1_, rv1_, ro1_, rl1_, rd2_, rv2_, ro2_, rl2_, rd3_, rv3_, ro3_, rl3_, rd4_, rv4_, ro4_, rl4_, rd5_, rv5_, ro5_, rl5_, rd6_, rv6_, ro6_, rl6_, rd7_, rv7_, ro7_, rl7_, rd8_, rv8_, ro8_, rl8_, rd9_, rv9_, ro9_, rl9_, rd10_, rv10_, ro10_, rl10_, rd11_, rv11_, ro11_, rl11_, rd12_, rv12_, ro12_, rl12_, rd13_, rv13_, ro13_, rl13_, rd14_, rv14_, ro14_, rl14_, rd15_, rv15_, ro15_, rl15_, rd16_, rv16_, ro16_, rl16_, rd17_, rv17_, ro17_, rl17_, d_evacuating_swaps, b_evacuating_swaps, b_neg_, hr, e']
  rfl
theorem below_turns (m : Nat) : ∀ (ks : List Nat) (acc : List D) (y : Option (Bool × D)) (s : Sr), (∀ k ∈ ks, k + 2 ≤ m) → ∃ y', turns (cTurn cf [1] (.nm 1) [] (.bi (.bin .sub) [.bi (.bin .sub) [.bor 0, .int 2], .bor 1])) (natsD ks) acc [some (false, .int m), y] s = some (acc.reverse ++ natsD (ks.map fun i => m - 2 - i), [some (false, .int m), y'], s)
  | [], acc, y, s, _ => ⟨y, by simp only [List.map_nil, List.append_nil]; rfl⟩
  | k :: ks, acc, y, s, h => by
    have hk := h k List.mem_cons_self
    have hc : cTurn cf [1] (.nm 1) [] (.bi (.bin .sub) [.bi (.bin .sub) [.bor 0, .int 2], .bor 1]) (.int (k : Int)) [some (false, .int m), y] s = some (some (.int ((m - 2 - k : Nat) : Int)), [some (false, .int m), some (false, .int (k : Int))], s) := by
      rw [c_turn]
      show (bindT (.nm 1) (.int (k : Int)) [some (false, .int (m : Int)), none]).bind _ = _
      rw [bind_nm (fun d h => by cases h)]
      have e : (m : Int) - 2 - (k : Int) = ((m - 2 - k : Nat) : Int) := by omega
      simp only [run_f, s_st, s_nil', k_nx, k_rt, k_bk, k_ct, m_asg, m_asgO, m_asgT, m_par, m_set, m_app, m_expr, m_ite, m_for, m_ret, m_sput, m_sfill, v_var, v_bor, v_int, v_bl, v_str, v_non, v_sget, v_not, v_and, v_or, v_ife, v_tup, v_lst, v_dnew, v_call, v_bi, v_comp, o_nil', o_bor, e_nil, e_star, t_nil', t_ex, c_turn, asB, asI, isSrc, outR, bindT, bindTs, putsE, fr, szLine, List.length_cons, List.length_nil, List.map_cons, List.map_nil, List.cons_append, List.nil_append, List.append_nil, List.getElem?_cons_zero, List.getElem?_cons_succ, List.set_cons_zero, List.set_cons_succ, List.replicate_zero, List.replicate_succ, List.getD_cons_zero, Nat.reduceSub, Nat.reduceAdd, Option.bind_some, Option.bind_none, Option.map_some, if_true, if_false, Bool.and_true, Bool.true_and, Bool.not_true, Bool.not_false, Bool.or_true, Bool.true_or, Bool.false_or, Bool.or_false, Bool.and_false, Bool.false_and, Bool.and_self, Bool.or_self, Bool.false_eq_true, startE, reduceCtorEq, List.contains_nil, List.contains_cons, Nat.reduceBEq, ite_self, Nat.reduceLeDiff, Nat.reduceEqDiff, Int.reduceLE, Int.reduceLT, Int.reduceNeg, Int.reduceAdd, Int.reduceSub, ↓reduceIte, decide_true, decide_false, true_or, or_true, or_false, false_or, or_self, not_true_eq_false, not_false_eq_true, if_true, itemsL_, itemsT_, o_var_, e_var_, o_mv_, e_mv_, o_rel_, e_rel_, o_int_, e_int_, o_bl_, e_bl_, o_str_, e_str_, o_non_, e_non_, o_not_, e_not_, o_and_, e_and_, o_or_, e_or_, o_ife_, e_ife_, o_tup_, e_tup_, o_lst_, e_lst_, o_dnew_, e_dnew_, o_call_, e_call_, o_bi_, e_bi_, o_pop_, e_pop_, o_popAt_, e_popAt_, o_sget_, e_sget_, o_comp_, e_comp_, e_bor_, b_add_, b_addT_, b_addL_, b_sub_, b_mod_, b_fdiv_, b_cmp_, b_neg_, b_idxL_, b_idxT_, b_idxD_, b_slcTt_, b_slcTf_, b_slcLt_, b_slcLf_, b_revL_, b_lenL_, b_lenT_, b_abs_, b_toint_, b_totupL_, b_totupT_, b_tolstL_, b_tolstT_, b_repr_, b_lr1_, b_lr2_, b_lr3_, b_clt_, b_cle_, b_cgt_, b_cge_, b_ceq_, b_cne_, b_cin_, b_cni_, b_badbin_, b_badcmp_, b_wseqL_, b_wseqT_, b_wr1_, b_wr2_, b_wr3_, b_wenL_, b_wenT_, bad_neg_, bad_idx_, bad_rev_, bad_cnt_, bad_len_, bad_sum_, bad_max1_, bad_min1_, bad_max2_, bad_min2_, bad_abs_, bad_toint_, bad_totup_, bad_tolst_, bad_sorted_, bad_repr_, bad_mint_, bad_any_, bad_all_, bad_lrange1_, bad_lrange2_, bad_lrange3_, bad_slc_, bad_dict_, bad_ixL_, bad_ixT_, p20, p21, p10, p30, p31, p32, rd0_, rv0_, ro0_, rl0_, rd1_, rv1_, ro1_, rl1_, rd2_, rv2_, ro2_, rl2_, rd3_, rv3_, ro3_, rl3_, rd4_, rv4_, ro4_, rl4_, rd5_, rv5_, ro5_, rl5_, rd6_, rv6_, ro6_, rl6_, rd7_, rv7_, ro7_, rl7_, rd8_, rv8_, ro8_, rl8_, rd9_, rv9_, ro9_, rl9_, rd10_, rv10_, ro10_, rl10_, rd11_, rv11_, ro11_, rl11_, rd12_, rv12_, ro12_, rl12_, rd13_, rv13_, ro13_, rl13_, rd14_, rv14_, ro14_, rl14_, rd15_, rv15_, ro15_, rl15_, rd16_, rv16_, ro16_, rl16_, rd17_, rv17_, ro17_, rl17_, e]
    obtain ⟨y', ih⟩ := below_turns m ks (.int ((m - 2 - k : Nat) : Int) :: acc) (some (false, .int (k : Int))) s (fun j hj => h j (List.mem_cons_of_mem _ hj))
    refine ⟨y', (tn_yes hc).trans (ih.trans ?_)⟩
    rw [List.reverse_cons, List.append_assoc]; rfl
theorem below_sw (m : Nat) (h1 : 1 ≤ m) (h2 : m ≤ 100) (h7 : ∀ s, cf 7 [.int (m : Int)] s = some (.tup (natsD (upW m)), s)) (s : Sr) : runF cf F d_swaps_from_below [.int m] s = some (.tup (natsD (downW m)), s) := by
  obtain ⟨y', e⟩ := below_turns cf m (upW m) [] none s (fun k hk => by have := upW_ok hk; omega)
  rw [List.reverse_nil, List.nil_append] at e
  have a1 := h7 s
  have no1 : noOwn [1] [some (false, .int (m : Int)), none] = true := rfl
  have bk : backE [1] [some (false, .int (m : Int)), none] [some (false, .int (m : Int)), y'] = [some (false, .int (m : Int)), none] := rfl
  simp only [run_f, s_st, s_nil', k_nx, k_rt, k_bk, k_ct, m_asg, m_asgO, m_asgT, m_par, m_set, m_app, m_expr, m_ite, m_for, m_ret, m_sput, m_sfill, v_var, v_bor, v_int, v_bl, v_str, v_non, v_sget, v_not, v_and, v_or, v_ife, v_tup, v_lst, v_dnew, v_call, v_bi, v_comp, o_nil', o_bor, e_nil, e_star, t_nil', t_ex, c_turn, asB, asI, isSrc, outR, bindT, bindTs, putsE, fr, szLine, List.length_cons, List.length_nil, List.map_cons, List.map_nil, List.cons_append, List.nil_append, List.append_nil, List.getElem?_cons_zero, List.getElem?_cons_succ, List.set_cons_zero, List.set_cons_succ, List.replicate_zero, List.replicate_succ, List.getD_cons_zero, Nat.reduceSub, Nat.reduceAdd, Option.bind_some, Option.bind_none, Option.map_some, if_true, if_false, Bool.and_true, Bool.true_and, Bool.not_true, Bool.not_false, Bool.or_true, Bool.true_or, Bool.false_or, Bool.or_false, Bool.and_false, Bool.false_and, Bool.and_self, Bool.or_self, Bool.false_eq_true, startE, reduceCtorEq, List.contains_nil, List.contains_cons, Nat.reduceBEq, ite_self, Nat.reduceLeDiff, Nat.reduceEqDiff, Int.reduceLE, Int.reduceLT, Int.reduceNeg, Int.reduceAdd, Int.reduceSub, ↓reduceIte, decide_true, decide_false, true_or, or_true, or_false, false_or, or_self, not_true_eq_false, not_false_eq_true, if_true, itemsL_, itemsT_, o_var_, e_var_, o_mv_, e_mv_, o_rel_, e_rel_, o_int_, e_int_, o_bl_, e_bl_, o_str_, e_str_, o_non_, e_non_, o_not_, e_not_, o_and_, e_and_, o_or_, e_or_, o_ife_, e_ife_, o_tup_, e_tup_, o_lst_, e_lst_, o_dnew_, e_dnew_, o_call_, e_call_, o_bi_, e_bi_, o_pop_, e_pop_, o_popAt_, e_popAt_, o_sget_, e_sget_, o_comp_, e_comp_, e_bor_, b_add_, b_addT_, b_addL_, b_sub_, b_mod_, b_fdiv_, b_cmp_, b_neg_, b_idxL_, b_idxT_, b_idxD_, b_slcTt_, b_slcTf_, b_slcLt_, b_slcLf_, b_revL_, b_lenL_, b_lenT_, b_abs_, b_toint_, b_totupL_, b_totupT_, b_tolstL_, b_tolstT_, b_repr_, b_lr1_, b_lr2_, b_lr3_, b_clt_, b_cle_, b_cgt_, b_cge_, b_ceq_, b_cne_, b_cin_, b_cni_, b_badbin_, b_badcmp_, b_wseqL_, b_wseqT_, b_wr1_, b_wr2_, b_wr3_, b_wenL_, b_wenT_, bad_neg_, bad_idx_, bad_rev_, bad_cnt_, bad_len_, bad_sum_, bad_max1_, bad_min1_, bad_max2_, bad_min2_, bad_abs_, bad_toint_, bad_totup_, bad_tolst_, bad_sorted_, bad_repr_, bad_mint_, bad_any_, bad_all_, bad_lrange1_, bad_lrange2_, bad_lrange3_, bad_slc_, bad_dict_, bad_ixL_, bad_ixT_, p20, p21, p10, p30, p31, p32, rd0_, rv0_, ro0_, rl0_, rd1_, rv1_, ro1_, rl1_, rd2_, rv2_, ro2_, rl2_, rd3_, rv3_, ro3_, rl3_, rd4_, rv4_, ro4_, rl4_, rd5_, rv5_, ro5_, rl5_, rd6_, rv6_, ro6_, rl6_, rd7_, rv7_, ro7_, rl7_, rd8_, rv8_, ro8_, rl8_, rd9_, rv9_, ro9_, rl9_, rd10_, rv10_, ro10_, rl10_, rd11_, rv11_, ro11_, rl11_, rd12_, rv12_, ro12_, rl12_, rd13_, rv13_, ro13_, rl13_, rd14_, rv14_, ro14_, rl14_, rd15_, rv15_, ro15_, rl15_, rd16_, rv16_, ro16_, rl16_, rd17_, rv17_, ro17_, rl17_, d_swaps_from_below, b_swaps_from_below, a1, no1, e, bk]
  rfl
theorem evacd_run (n : Int) (ps : List (Int × Int)) (r : List Int) (hn : n = r.length) (h7 : ∀ s, cf 7 [.int n] s = some (.tup (natsD (upW r.length)), s)) (h2 : ∀ s, cf 2 [ordD n ps, rowD r, .tup (natsD (upW r.length))] s = some (rowD (alongR ps r (upW r.length)), s)) (s : Sr) : runF cf F d_evacuated [ordD n ps, rowD r] s = some (rowD (alongR ps r (upW r.length)), s) := by
  have a1 := h7 s
  have a2 := h2 s
  simp only [run_f, s_st, s_nil', k_nx, k_rt, k_bk, k_ct, m_asg, m_asgO, m_asgT, m_par, m_set, m_app, m_expr, m_ite, m_for, m_ret, m_sput, m_sfill, v_var, v_bor, v_int, v_bl, v_str, v_non, v_sget, v_not, v_and, v_or, v_ife, v_tup, v_lst, v_dnew, v_call, v_bi, v_comp, o_nil', o_bor, e_nil, e_star, t_nil', t_ex, c_turn, asB, asI, isSrc, outR, bindT, bindTs, putsE, fr, szLine, List.length_cons, List.length_nil, List.map_cons, List.map_nil, List.cons_append, List.nil_append, List.append_nil, List.getElem?_cons_zero, List.getElem?_cons_succ, List.set_cons_zero, List.set_cons_succ, List.replicate_zero, List.replicate_succ, List.getD_cons_zero, Nat.reduceSub, Nat.reduceAdd, Option.bind_some, Option.bind_none, Option.map_some, if_true, if_false, Bool.and_true, Bool.true_and, Bool.not_true, Bool.not_false, Bool.or_true, Bool.true_or, Bool.false_or, Bool.or_false, Bool.and_false, Bool.false_and, Bool.and_self, Bool.or_self, Bool.false_eq_true, startE, reduceCtorEq, List.contains_nil, List.contains_cons, Nat.reduceBEq, ite_self, Nat.reduceLeDiff, Nat.reduceEqDiff, Int.reduceLE, Int.reduceLT, Int.reduceNeg, Int.reduceAdd, Int.reduceSub, ↓reduceIte, decide_true, decide_false, true_or, or_true, or_false, false_or, or_self, not_true_eq_false, not_false_eq_true, if_true, itemsL_, itemsT_, o_var_, e_var_, o_mv_, e_mv_, o_rel_, e_rel_, o_int_, e_int_, o_bl_, e_bl_, o_str_, e_str_, o_non_, e_non_, o_not_, e_not_, o_and_, e_and_, o_or_, e_or_, o_ife_, e_ife_, o_tup_, e_tup_, o_lst_, e_lst_, o_dnew_, e_dnew_, o_call_, e_call_, o_bi_, e_bi_, o_pop_, e_pop_, o_popAt_, e_popAt_, o_sget_, e_sget_, o_comp_, e_comp_, e_bor_, b_add_, b_addT_, b_addL_, b_sub_, b_mod_, b_fdiv_, b_cmp_, b_neg_, b_idxL_, b_idxT_, b_idxD_, b_slcTt_, b_slcTf_, b_slcLt_, b_slcLf_, b_revL_, b_lenL_, b_lenT_, b_abs_, b_toint_, b_totupL_, b_totupT_, b_tolstL_, b_tolstT_, b_repr_, b_lr1_, b_lr2_, b_lr3_, b_clt_, b_cle_, b_cgt_, b_cge_, b_ceq_, b_cne_, b_cin_, b_cni_, b_badbin_, b_badcmp_, b_wseqL_, b_wseqT_, b_wr1_, b_wr2_, b_wr3_, b_wenL_, b_wenT_, bad_neg_, bad_idx_, bad_rev_, bad_cnt_, bad_len_, bad_sum_, bad_max1_, bad_min1_, bad_max2_, bad_min2_, bad_abs_, bad_toint_, bad_totup_, bad_tolst_, bad_sorted_, bad_repr_, bad_mint_, bad_any_, bad_all_, bad_lrange1_, bad_lrange2_, bad_lrange3_, bad_slc_, bad_dict_, bad_ixL_, bad_ixT_, p20, p21, p10, p30, p31, p32, rd0_, rv0_, ro0_, rl0_, rd1_, rv1_, ro1_, rl1_, rd2_, rv2_, ro2_, rl2_, rd3_, rv3_, ro3_, rl3_, rd4_, rv4_, ro4_, rl4_, rd5_, rv5_, ro5_, rl5_, rd6_, rv6_, ro6_, rl6_, rd7_, rv7_, ro7_, rl7_, rd8_, rv8_, ro8_, rl8_, rd9_, rv9_, ro9_, rl9_, rd10_, rv10_, ro10_, rl10_, rd11_, rv11_, ro11_, rl11_, rd12_, rv12_, ro12_, rl12_, rd13_, rv13_, ro13_, rl13_, rd14_, rv14_, ro14_, rl14_, rd15_, rv15_, ro15_, rl15_, rd16_, rv16_, ro16_, rl16_, rd17_, rv17_, ro17_, rl17_, d_evacuated, b_evacuated, a1, a2]
theorem evacb_run (n : Int) (ps : List (Int × Int)) (r : List Int) (hn : n = r.length) (h7 : ∀ s, cf 8 [.int n] s = some (.tup (natsD (downW r.length)), s)) (h2 : ∀ s, cf 2 [ordD n ps, rowD r, .tup (natsD (downW r.length))] s = some (rowD (alongR ps r (downW r.length)), s)) (s : Sr) : runF cf F d_evacuated_below [ordD n ps, rowD r] s = some (rowD (alongR ps r (downW r.length)), s) := by
  have a1 := h7 s
  have a2 := h2 s
  simp only [run_f, s_st, s_nil', k_nx, k_rt, k_bk, k_ct, m_asg, m_asgO, m_asgT, m_par, m_set, m_app, m_expr, m_ite, m_for, m_ret, m_sput, m_sfill, v_var, v_bor, v_int, v_bl, v_str, v_non, v_sget, v_not, v_and, v_or, v_ife, v_tup, v_lst, v_dnew, v_call, v_bi, v_comp, o_nil', o_bor, e_nil, e_star, t_nil', t_ex, c_turn, asB, asI, isSrc, outR, bindT, bindTs, putsE, fr, szLine, List.length_cons, List.length_nil, List.map_cons, List.map_nil, List.cons_append, List.nil_append, List.append_nil, List.getElem?_cons_zero, List.getElem?_cons_succ, List.set_cons_zero, List.set_cons_succ, List.replicate_zero, List.replicate_succ, List.getD_cons_zero, Nat.reduceSub, Nat.reduceAdd, Option.bind_some, Option.bind_none, Option.map_some, if_true, if_false, Bool.and_true, Bool.true_and, Bool.not_true, Bool.not_false, Bool.or_true, Bool.true_or, Bool.false_or, Bool.or_false, Bool.and_false, Bool.false_and, Bool.and_self, Bool.or_self, Bool.false_eq_true, startE, reduceCtorEq, List.contains_nil, List.contains_cons, Nat.reduceBEq, ite_self, Nat.reduceLeDiff, Nat.reduceEqDiff, Int.reduceLE, Int.reduceLT, Int.reduceNeg, Int.reduceAdd, Int.reduceSub, ↓reduceIte, decide_true, decide_false, true_or, or_true, or_false, false_or, or_self, not_true_eq_false, not_false_eq_true, if_true, itemsL_, itemsT_, o_var_, e_var_, o_mv_, e_mv_, o_rel_, e_rel_, o_int_, e_int_, o_bl_, e_bl_, o_str_, e_str_, o_non_, e_non_, o_not_, e_not_, o_and_, e_and_, o_or_, e_or_, o_ife_, e_ife_, o_tup_, e_tup_, o_lst_, e_lst_, o_dnew_, e_dnew_, o_call_, e_call_, o_bi_, e_bi_, o_pop_, e_pop_, o_popAt_, e_popAt_, o_sget_, e_sget_, o_comp_, e_comp_, e_bor_, b_add_, b_addT_, b_addL_, b_sub_, b_mod_, b_fdiv_, b_cmp_, b_neg_, b_idxL_, b_idxT_, b_idxD_, b_slcTt_, b_slcTf_, b_slcLt_, b_slcLf_, b_revL_, b_lenL_, b_lenT_, b_abs_, b_toint_, b_totupL_, b_totupT_, b_tolstL_, b_tolstT_, b_repr_, b_lr1_, b_lr2_, b_lr3_, b_clt_, b_cle_, b_cgt_, b_cge_, b_ceq_, b_cne_, b_cin_, b_cni_, b_badbin_, b_badcmp_, b_wseqL_, b_wseqT_, b_wr1_, b_wr2_, b_wr3_, b_wenL_, b_wenT_, bad_neg_, bad_idx_, bad_rev_, bad_cnt_, bad_len_, bad_sum_, bad_max1_, bad_min1_, bad_max2_, bad_min2_, bad_abs_, bad_toint_, bad_totup_, bad_tolst_, bad_sorted_, bad_repr_, bad_mint_, bad_any_, bad_all_, bad_lrange1_, bad_lrange2_, bad_lrange3_, bad_slc_, bad_dict_, bad_ixL_, bad_ixT_, p20, p21, p10, p30, p31, p32, rd0_, rv0_, ro0_, rl0_, rd1_, rv1_, ro1_, rl1_, rd2_, rv2_, ro2_, rl2_, rd3_, rv3_, ro3_, rl3_, rd4_, rv4_, ro4_, rl4_, rd5_, rv5_, ro5_, rl5_, rd6_, rv6_, ro6_, rl6_, rd7_, rv7_, ro7_, rl7_, rd8_, rv8_, ro8_, rl8_, rd9_, rv9_, ro9_, rl9_, rd10_, rv10_, ro10_, rl10_, rd11_, rv11_, ro11_, rl11_, rd12_, rv12_, ro12_, rl12_, rd13_, rv13_, ro13_, rl13_, rd14_, rv14_, ro14_, rl14_, rd15_, rv15_, ro15_, rl15_, rd16_, rv16_, ro16_, rl16_, rd17_, rv17_, ro17_, rl17_, d_evacuated_below, b_evacuated_below, a1, a2]
end Toy
end

section
set_option linter.all false
set_option autoImplicit false
set_option maxRecDepth 10000
namespace Toy
open Rf
theorem b_tointB_ (b : Bool) : biD .toint [.bl b] = some (.int (if b then 1 else 0)) := rfl
theorem b_min2_ (i j : Int) : biD .min2 [.int i, .int j] = some (.int (if j < i then j else i)) := rfl
variable (cf : Cf) (F : Nat)
abbrev bpE : Sm := .ite (.bi (.cmp .isin) [.tup [.bi .idx [.bor 4, .bi .neg [.int 1]], .var 5], .bi .idx [.bor 0, .int 1]]) [.app 4 (.var 5)] []
theorem pathL_for (n : Int) (ps : List (Int × Int)) (x1 x2 x3 x6 x7 : Option (Bool × D)) (ff : Bool) (s : Sr) : ∀ (ws p : List Int) (y : Option (Bool × D)), 0 < p.length → p.length + ws.length ≤ 1000 → nOw y →
    ∃ y', forT (forB cf ff F (.nm 5) [bpE]) (ws.map .int) [some (false, ordD n ps), x1, x2, x3, some (true, .lst (p.map .int)), y, x6, x7] s = some (.nx [some (false, ordD n ps), x1, x2, x3, some (true, .lst ((ws.foldl (pathS ps) p).map .int)), y', x6, x7] s) ∧ nOw y'
  | [], p, y, _, _, hy => ⟨y, rfl, hy⟩
  | w :: ws, p, y, hp, hl, hy => by
    obtain ⟨l1, l2⟩ := pathS_len ps p w
    simp only [List.length_cons] at hl
    obtain ⟨y', ih, ny⟩ := pathL_for n ps x1 x2 x3 x6 x7 ff s ws (pathS ps p w) (some (false, .int w)) (by omega) (by omega) (nOw_v _)
    refine ⟨y', (f_step ?_).trans ih, ny⟩
    unfold forB
    rw [bind_nm (fun d h => hy d (by simpa using h))]
    have hl2 : (p.map D.int).length < 16777216 := by rw [List.length_map]; omega
    have hl4 : p.length < 16777216 := by omega
    simp only [run_f, s_st, s_nil', k_nx, k_rt, k_bk, k_ct, m_asg, m_asgO, m_asgT, m_par, m_set, m_app, m_expr, m_ite, m_for, m_ret, m_sput, m_sfill, v_var, v_bor, v_int, v_bl, v_str, v_non, v_sget, v_not, v_and, v_or, v_ife, v_tup, v_lst, v_dnew, v_call, v_bi, v_comp, o_nil', o_bor, e_nil, e_star, t_nil', t_ex, c_turn, asB, asI, isSrc, outR, bindT, bindTs, putsE, fr, szLine, List.length_cons, List.length_nil, List.map_cons, List.map_nil, List.cons_append, List.nil_append, List.append_nil, List.getElem?_cons_zero, List.getElem?_cons_succ, List.set_cons_zero, List.set_cons_succ, List.replicate_zero, List.replicate_succ, List.getD_cons_zero, Nat.reduceSub, Nat.reduceAdd, Option.bind_some, Option.bind_none, Option.map_some, if_true, if_false, Bool.and_true, Bool.true_and, Bool.not_true, Bool.not_false, Bool.or_true, Bool.true_or, Bool.false_or, Bool.or_false, Bool.and_false, Bool.false_and, Bool.and_self, Bool.or_self, Bool.false_eq_true, startE, reduceCtorEq, List.contains_nil, List.contains_cons, Nat.reduceBEq, ite_self, Nat.reduceLeDiff, Nat.reduceEqDiff, Int.reduceLE, Int.reduceLT, Int.reduceNeg, Int.reduceAdd, Int.reduceSub, ↓reduceIte, decide_true, decide_false, true_or, or_true, or_false, false_or, or_self, not_true_eq_false, not_false_eq_true, if_true, itemsL_, itemsT_, o_var_, e_var_, o_mv_, e_mv_, o_rel_, e_rel_, o_int_, e_int_, o_bl_, e_bl_, o_str_, e_str_, o_non_, e_non_, o_not_, e_not_, o_and_, e_and_, o_or_, e_or_, o_ife_, e_ife_, o_tup_, e_tup_, o_lst_, e_lst_, o_dnew_, e_dnew_, o_call_, e_call_, o_bi_, e_bi_, o_pop_, e_pop_, o_popAt_, e_popAt_, o_sget_, e_sget_, o_comp_, e_comp_, e_bor_, b_add_, b_addT_, b_addL_, b_sub_, b_mod_, b_fdiv_, b_cmp_, b_neg_, b_idxL_, b_idxT_, b_idxD_, b_slcTt_, b_slcTf_, b_slcLt_, b_slcLf_, b_revL_, b_lenL_, b_lenT_, b_abs_, b_toint_, b_totupL_, b_totupT_, b_tolstL_, b_tolstT_, b_repr_, b_lr1_, b_lr2_, b_lr3_, b_clt_, b_cle_, b_cgt_, b_cge_, b_ceq_, b_cne_, b_cin_, b_cni_, b_badbin_, b_badcmp_, b_wseqL_, b_wseqT_, b_wr1_, b_wr2_, b_wr3_, b_wenL_, b_wenT_, bad_neg_, bad_idx_, bad_rev_, bad_cnt_, bad_len_, bad_sum_, bad_max1_, bad_min1_, bad_max2_, bad_min2_, bad_abs_, bad_toint_, bad_totup_, bad_tolst_, bad_sorted_, bad_repr_, bad_mint_, bad_any_, bad_all_, bad_lrange1_, bad_lrange2_, bad_lrange3_, bad_slc_, bad_dict_, bad_ixL_, bad_ixT_, p20, p21, p10, p30, p31, p32, rd0_, rv0_, ro0_, rl0_, rd1_, rv1_, ro1_, rl1_, rd2_, rv2_, ro2_, rl2_, rd3_, rv3_, ro3_, rl3_, rd4_, rv4_, ro4_, rl4_, rd5_, rv5_, ro5_, rl5_, rd6_, rv6_, ro6_, rl6_, rd7_, rv7_, ro7_, rl7_, rd8_, rv8_, ro8_, rl8_, rd9_, rv9_, ro9_, rl9_, rd10_, rv10_, ro10_, rl10_, rd11_, rv11_, ro11_, rl11_, rd12_, rv12_, ro12_, rl12_, rd13_, rv13_, ro13_, rl13_, rd14_, rv14_, ro14_, rl14_, rd15_, rv15_, ro15_, rl15_, rd16_, rv16_, ro16_, rl16_, rd17_, rv17_, ro17_, rl17_, List.length_map, place_neg1 hp, row_get (show p.length - 1 < p.length by omega), in_pr]
    unfold pathS
    cases ps.contains (p.getD (p.length - 1) 0, w) <;> simp only [run_f, s_st, s_nil', k_nx, k_rt, k_bk, k_ct, m_asg, m_asgO, m_asgT, m_par, m_set, m_app, m_expr, m_ite, m_for, m_ret, m_sput, m_sfill, v_var, v_bor, v_int, v_bl, v_str, v_non, v_sget, v_not, v_and, v_or, v_ife, v_tup, v_lst, v_dnew, v_call, v_bi, v_comp, o_nil', o_bor, e_nil, e_star, t_nil', t_ex, c_turn, asB, asI, isSrc, outR, bindT, bindTs, putsE, fr, szLine, List.length_cons, List.length_nil, List.map_cons, List.map_nil, List.cons_append, List.nil_append, List.append_nil, List.getElem?_cons_zero, List.getElem?_cons_succ, List.set_cons_zero, List.set_cons_succ, List.replicate_zero, List.replicate_succ, List.getD_cons_zero, Nat.reduceSub, Nat.reduceAdd, Option.bind_some, Option.bind_none, Option.map_some, if_true, if_false, Bool.and_true, Bool.true_and, Bool.not_true, Bool.not_false, Bool.or_true, Bool.true_or, Bool.false_or, Bool.or_false, Bool.and_false, Bool.false_and, Bool.and_self, Bool.or_self, Bool.false_eq_true, startE, reduceCtorEq, List.contains_nil, List.contains_cons, Nat.reduceBEq, ite_self, Nat.reduceLeDiff, Nat.reduceEqDiff, Int.reduceLE, Int.reduceLT, Int.reduceNeg, Int.reduceAdd, Int.reduceSub, ↓reduceIte, decide_true, decide_false, true_or, or_true, or_false, false_or, or_self, not_true_eq_false, not_false_eq_true, if_true, itemsL_, itemsT_, o_var_, e_var_, o_mv_, e_mv_, o_rel_, e_rel_, o_int_, e_int_, o_bl_, e_bl_, o_str_, e_str_, o_non_, e_non_, o_not_, e_not_, o_and_, e_and_, o_or_, e_or_, o_ife_, e_ife_, o_tup_, e_tup_, o_lst_, e_lst_, o_dnew_, e_dnew_, o_call_, e_call_, o_bi_, e_bi_, o_pop_, e_pop_, o_popAt_, e_popAt_, o_sget_, e_sget_, o_comp_, e_comp_, e_bor_, b_add_, b_addT_, b_addL_, b_sub_, b_mod_, b_fdiv_, b_cmp_, b_neg_, b_idxL_, b_idxT_, b_idxD_, b_slcTt_, b_slcTf_, b_slcLt_, b_slcLf_, b_revL_, b_lenL_, b_lenT_, b_abs_, b_toint_, b_totupL_, b_totupT_, b_tolstL_, b_tolstT_, b_repr_, b_lr1_, b_lr2_, b_lr3_, b_clt_, b_cle_, b_cgt_, b_cge_, b_ceq_, b_cne_, b_cin_, b_cni_, b_badbin_, b_badcmp_, b_wseqL_, b_wseqT_, b_wr1_, b_wr2_, b_wr3_, b_wenL_, b_wenT_, bad_neg_, bad_idx_, bad_rev_, bad_cnt_, bad_len_, bad_sum_, bad_max1_, bad_min1_, bad_max2_, bad_min2_, bad_abs_, bad_toint_, bad_totup_, bad_tolst_, bad_sorted_, bad_repr_, bad_mint_, bad_any_, bad_all_, bad_lrange1_, bad_lrange2_, bad_lrange3_, bad_slc_, bad_dict_, bad_ixL_, bad_ixT_, p20, p21, p10, p30, p31, p32, rd0_, rv0_, ro0_, rl0_, rd1_, rv1_, ro1_, rl1_, rd2_, rv2_, ro2_, rl2_, rd3_, rv3_, ro3_, rl3_, rd4_, rv4_, ro4_, rl4_, rd5_, rv5_, ro5_, rl5_, rd6_, rv6_, ro6_, rl6_, rd7_, rv7_, ro7_, rl7_, rd8_, rv8_, ro8_, rl8_, rd9_, rv9_, ro9_, rl9_, rd10_, rv10_, ro10_, rl10_, rd11_, rv11_, ro11_, rl11_, rd12_, rv12_, ro12_, rl12_, rd13_, rv13_, ro13_, rl13_, rd14_, rv14_, ro14_, rl14_, rd15_, rv15_, ro15_, rl15_, rd16_, rv16_, ro16_, rl16_, rd17_, rv17_, ro17_, rl17_, hl2, hl4, List.length_map, List.map_append]
abbrev bg1E : Sm := .asg 7 (.bi (.bin .add) [.bor 7, .bi .toint [.and (.bi (.cmp .lt) [.bi (.bin .add) [.bor 7, .int 1], .bi .len [.bor 4]]) (.bi (.cmp .eq) [.bor 5, .bi .idx [.bor 4, .bi .min2 [.bi (.bin .add) [.bor 7, .int 1], .bi (.bin .sub) [.bi .len [.bor 4], .int 1]]]])]])
abbrev bg2E : Sm := .app 6 (.ife (.bi (.cmp .isin) [.bor 5, .bor 4]) (.bi .idx [.bor 4, .bi (.bin .sub) [.bor 7, .int 1]]) (.var 5))
theorem goneL_for (p : List Int) (hp : p.length ≤ 1000) (x0 x1 x2 x3 : Option (Bool × D)) (ff : Bool) (s : Sr) : ∀ (ws : List Int) (q : List Int × Nat) (y : Option (Bool × D)), q.2 < p.length → q.1.length + ws.length ≤ 1000 → ws.Nodup → (p.drop (q.2 + 1)).Sublist ws → (∀ x ∈ p.take (q.2 + 1), x ∉ ws) → nOw y →
    ∃ y', forT (forB cf ff F (.nm 5) [bg1E, bg2E]) (ws.map .int) [x0, x1, x2, x3, some (true, .lst (p.map .int)), y, some (true, .lst (q.1.map .int)), some (false, .int (q.2 : Int))] s = some (.nx [x0, x1, x2, x3, some (true, .lst (p.map .int)), y', some (true, .lst ((ws.foldl (promS p) q).1.map .int)), some (false, .int ((ws.foldl (promS p) q).2 : Nat))] s) ∧ nOw y'
  | [], q, y, _, _, _, _, _, hy => ⟨y, rfl, hy⟩
  | w :: ws, q, y, hq, hl, nd, hsub, hout, hy => by
    simp only [List.length_cons] at hl
    have nd' := List.nodup_cons.mp nd
    have hget : p.drop (q.2 + 1) = [] ∧ ¬ q.2 + 1 < p.length ∨ q.2 + 1 < p.length ∧ p.drop (q.2 + 1) = p.getD (q.2 + 1) 0 :: p.drop (q.2 + 2) := by
      by_cases h : q.2 + 1 < p.length
      · refine .inr ⟨h, ?_⟩
        rw [List.drop_eq_getElem_cons h, getD_of, List.getElem?_eq_getElem h]; rfl
      · exact .inl ⟨List.drop_of_length_le (by omega), h⟩
    have hwin : w ∈ p → w ∈ p.drop (q.2 + 1) := fun h => by
      rw [← List.take_append_drop (q.2 + 1) p] at h
      rcases List.mem_append.mp h with h | h
      · exact absurd List.mem_cons_self (hout w h)
      · exact h
    by_cases hC : q.2 + 1 < p.length ∧ w = p.getD (q.2 + 1) 0
    · have hq' : promS p q w = (q.1 ++ [p.getD q.2 0], q.2 + 1) := by unfold promS; rw [if_pos hC]
      obtain ⟨hC1, hC2⟩ := hC
      have hd : p.drop (q.2 + 1) = w :: p.drop (q.2 + 2) := by
        rcases hget with ⟨_, h⟩ | ⟨_, h⟩
        · exact absurd hC1 h
        · rw [h, ← hC2]
      have hmem : w ∈ p := List.drop_subset (q.2 + 1) p (by rw [hd]; exact List.mem_cons_self)
      have hsub' : (p.drop (q.2 + 2)).Sublist ws := by
        rw [hd] at hsub
        exact List.cons_sublist_cons.mp hsub
      have hout' : ∀ x ∈ p.take (q.2 + 2), x ∉ ws := fun x hx hx2 => by
        rw [List.take_succ_eq_append_getElem hC1] at hx
        rcases List.mem_append.mp hx with hx | hx
        · exact hout x hx (List.mem_cons_of_mem _ hx2)
        · rw [List.mem_singleton] at hx
          have : x = w := by rw [hx, hC2, getD_of, List.getElem?_eq_getElem hC1]; rfl
          exact nd'.1 (this ▸ hx2)
      obtain ⟨y', ih, ny⟩ := goneL_for p hp x0 x1 x2 x3 ff s ws (promS p q w) (some (false, .int w)) (by rw [hq']; exact hC1) (by rw [hq']; simp only [List.length_append, List.length_singleton]; omega) nd'.2 (by rw [hq']; exact hsub') (by rw [hq']; exact hout') (nOw_v _)
      refine ⟨y', (f_step ?_).trans ih, ny⟩
      rw [hq']
      unfold forB
      rw [bind_nm (fun d h => hy d (by simpa using h))]
      have e1 : (q.2 : Int) + 1 = ((q.2 + 1 : Nat) : Int) := by omega
      have e2 : ((q.2 + 1 : Nat) : Int) < (p.length : Int) := by omega
      have e3 : (if (p.length : Int) - 1 < ((q.2 + 1 : Nat) : Int) then (p.length : Int) - 1 else ((q.2 + 1 : Nat) : Int)) = ((q.2 + 1 : Nat) : Int) := by rw [if_neg (by omega)]
      have e4 : ((q.2 + 1 : Nat) : Int) - 1 = ((q.2 : Nat) : Int) := by omega
      have hc : p.contains w = true := by simpa using hmem
      have hl2 : q.1.length < 16777216 := by omega
      have e5 : decide (w = p.getD (q.2 + 1) 0) = true := decide_eq_true hC2
      simp only [run_f, s_st, s_nil', k_nx, k_rt, k_bk, k_ct, m_asg, m_asgO, m_asgT, m_par, m_set, m_app, m_expr, m_ite, m_for, m_ret, m_sput, m_sfill, v_var, v_bor, v_int, v_bl, v_str, v_non, v_sget, v_not, v_and, v_or, v_ife, v_tup, v_lst, v_dnew, v_call, v_bi, v_comp, o_nil', o_bor, e_nil, e_star, t_nil', t_ex, c_turn, asB, asI, isSrc, outR, bindT, bindTs, putsE, fr, szLine, List.length_cons, List.length_nil, List.map_cons, List.map_nil, List.cons_append, List.nil_append, List.append_nil, List.getElem?_cons_zero, List.getElem?_cons_succ, List.set_cons_zero, List.set_cons_succ, List.replicate_zero, List.replicate_succ, List.getD_cons_zero, Nat.reduceSub, Nat.reduceAdd, Option.bind_some, Option.bind_none, Option.map_some, if_true, if_false, Bool.and_true, Bool.true_and, Bool.not_true, Bool.not_false, Bool.or_true, Bool.true_or, Bool.false_or, Bool.or_false, Bool.and_false, Bool.false_and, Bool.and_self, Bool.or_self, Bool.false_eq_true, startE, reduceCtorEq, List.contains_nil, List.contains_cons, Nat.reduceBEq, ite_self, Nat.reduceLeDiff, Nat.reduceEqDiff, Int.reduceLE, Int.reduceLT, Int.reduceNeg, Int.reduceAdd, Int.reduceSub, ↓reduceIte, decide_true, decide_false, true_or, or_true, or_false, false_or, or_self, not_true_eq_false, not_false_eq_true, if_true, itemsL_, itemsT_, o_var_, e_var_, o_mv_, e_mv_, o_rel_, e_rel_, o_int_, e_int_, o_bl_, e_bl_, o_str_, e_str_, o_non_, e_non_, o_not_, e_not_, o_and_, e_and_, o_or_, e_or_, o_ife_, e_ife_, o_tup_, e_tup_, o_lst_, e_lst_, o_dnew_, e_dnew_, o_call_, e_call_, o_bi_, e_bi_, o_pop_, e_pop_, o_popAt_, e_popAt_, o_sget_, e_sget_, o_comp_, e_comp_, e_bor_, b_add_, b_addT_, b_addL_, b_sub_, b_mod_, b_fdiv_, b_cmp_, b_neg_, b_idxL_, b_idxT_, b_idxD_, b_slcTt_, b_slcTf_, b_slcLt_, b_slcLf_, b_revL_, b_lenL_, b_lenT_, b_abs_, b_toint_, b_totupL_, b_totupT_, b_tolstL_, b_tolstT_, b_repr_, b_lr1_, b_lr2_, b_lr3_, b_clt_, b_cle_, b_cgt_, b_cge_, b_ceq_, b_cne_, b_cin_, b_cni_, b_badbin_, b_badcmp_, b_wseqL_, b_wseqT_, b_wr1_, b_wr2_, b_wr3_, b_wenL_, b_wenT_, bad_neg_, bad_idx_, bad_rev_, bad_cnt_, bad_len_, bad_sum_, bad_max1_, bad_min1_, bad_max2_, bad_min2_, bad_abs_, bad_toint_, bad_totup_, bad_tolst_, bad_sorted_, bad_repr_, bad_mint_, bad_any_, bad_all_, bad_lrange1_, bad_lrange2_, bad_lrange3_, bad_slc_, bad_dict_, bad_ixL_, bad_ixT_, p20, p21, p10, p30, p31, p32, rd0_, rv0_, ro0_, rl0_, rd1_, rv1_, ro1_, rl1_, rd2_, rv2_, ro2_, rl2_, rd3_, rv3_, ro3_, rl3_, rd4_, rv4_, ro4_, rl4_, rd5_, rv5_, ro5_, rl5_, rd6_, rv6_, ro6_, rl6_, rd7_, rv7_, ro7_, rl7_, rd8_, rv8_, ro8_, rl8_, rd9_, rv9_, ro9_, rl9_, rd10_, rv10_, ro10_, rl10_, rd11_, rv11_, ro11_, rl11_, rd12_, rv12_, ro12_, rl12_, rd13_, rv13_, ro13_, rl13_, rd14_, rv14_, ro14_, rl14_, rd15_, rv15_, ro15_, rl15_, rd16_, rv16_, ro16_, rl16_, rd17_, rv17_, ro17_, rl17_, e1, List.length_map, decide_eq_true e2, b_min2_, e3, place_nat hC1, row_get hC1, eqD_int, e5, b_tointB_, in_intL, hc, e4, place_nat hq, row_get hq, hl2, List.map_append]
    · have hq' : promS p q w = (q.1 ++ [w], q.2) := by unfold promS; rw [if_neg hC]
      have hnot : w ∉ p := fun h => by
        have h1 := hwin h
        rcases hget with ⟨h2, _⟩ | ⟨h2, h3⟩
        · rw [h2] at h1; cases h1
        · rw [h3] at hsub h1
          rcases List.mem_cons.mp h1 with h1 | h1
          · exact hC ⟨h2, h1⟩
          · cases hsub with
            | cons _ h4 => exact nd'.1 (h4.subset (List.mem_cons_of_mem _ h1))
            | cons_cons _ h4 => exact hC ⟨h2, rfl⟩
      have hsub' : (p.drop (q.2 + 1)).Sublist ws := by
        rcases hget with ⟨h2, _⟩ | ⟨h2, h3⟩
        · rw [h2]; exact List.nil_sublist _
        · rw [h3] at hsub ⊢
          cases hsub with
          | cons _ h4 => exact h4
          | cons_cons _ h4 => exact absurd ⟨h2, rfl⟩ hC
      obtain ⟨y', ih, ny⟩ := goneL_for p hp x0 x1 x2 x3 ff s ws (promS p q w) (some (false, .int w)) (by rw [hq']; exact hq) (by rw [hq']; simp only [List.length_append, List.length_singleton]; omega) nd'.2 (by rw [hq']; exact hsub') (by rw [hq']; exact fun x hx hx2 => hout x hx (List.mem_cons_of_mem _ hx2)) (nOw_v _)
      refine ⟨y', (f_step ?_).trans ih, ny⟩
      rw [hq']
      unfold forB
      rw [bind_nm (fun d h => hy d (by simpa using h))]
      have hc : p.contains w = false := by
        cases h : p.contains w with
        | false => rfl
        | true => exact absurd (by simpa using h) hnot
      have hl2 : q.1.length < 16777216 := by omega
      have e1 : (q.2 : Int) + 1 = ((q.2 + 1 : Nat) : Int) := by omega
      by_cases h1 : q.2 + 1 < p.length
      · have e2 : ((q.2 + 1 : Nat) : Int) < (p.length : Int) := by omega
        have e3 : (if (p.length : Int) - 1 < ((q.2 + 1 : Nat) : Int) then (p.length : Int) - 1 else ((q.2 + 1 : Nat) : Int)) = ((q.2 + 1 : Nat) : Int) := by rw [if_neg (by omega)]
        have e5 : decide (w = p.getD (q.2 + 1) 0) = false := decide_eq_false fun h => hC ⟨h1, h⟩
        simp only [run_f, s_st, s_nil', k_nx, k_rt, k_bk, k_ct, m_asg, m_asgO, m_asgT, m_par, m_set, m_app, m_expr, m_ite, m_for, m_ret, m_sput, m_sfill, v_var, v_bor, v_int, v_bl, v_str, v_non, v_sget, v_not, v_and, v_or, v_ife, v_tup, v_lst, v_dnew, v_call, v_bi, v_comp, o_nil', o_bor, e_nil, e_star, t_nil', t_ex, c_turn, asB, asI, isSrc, outR, bindT, bindTs, putsE, fr, szLine, List.length_cons, List.length_nil, List.map_cons, List.map_nil, List.cons_append, List.nil_append, List.append_nil, List.getElem?_cons_zero, List.getElem?_cons_succ, List.set_cons_zero, List.set_cons_succ, List.replicate_zero, List.replicate_succ, List.getD_cons_zero, Nat.reduceSub, Nat.reduceAdd, Option.bind_some, Option.bind_none, Option.map_some, if_true, if_false, Bool.and_true, Bool.true_and, Bool.not_true, Bool.not_false, Bool.or_true, Bool.true_or, Bool.false_or, Bool.or_false, Bool.and_false, Bool.false_and, Bool.and_self, Bool.or_self, Bool.false_eq_true, startE, reduceCtorEq, List.contains_nil, List.contains_cons, Nat.reduceBEq, ite_self, Nat.reduceLeDiff, Nat.reduceEqDiff, Int.reduceLE, Int.reduceLT, Int.reduceNeg, Int.reduceAdd, Int.reduceSub, ↓reduceIte, decide_true, decide_false, true_or, or_true, or_false, false_or, or_self, not_true_eq_false, not_false_eq_true, if_true, itemsL_, itemsT_, o_var_, e_var_, o_mv_, e_mv_, o_rel_, e_rel_, o_int_, e_int_, o_bl_, e_bl_, o_str_, e_str_, o_non_, e_non_, o_not_, e_not_, o_and_, e_and_, o_or_, e_or_, o_ife_, e_ife_, o_tup_, e_tup_, o_lst_, e_lst_, o_dnew_, e_dnew_, o_call_, e_call_, o_bi_, e_bi_, o_pop_, e_pop_, o_popAt_, e_popAt_, o_sget_, e_sget_, o_comp_, e_comp_, e_bor_, b_add_, b_addT_, b_addL_, b_sub_, b_mod_, b_fdiv_, b_cmp_, b_neg_, b_idxL_, b_idxT_, b_idxD_, b_slcTt_, b_slcTf_, b_slcLt_, b_slcLf_, b_revL_, b_lenL_, b_lenT_, b_abs_, b_toint_, b_totupL_, b_totupT_, b_tolstL_, b_tolstT_, b_repr_, b_lr1_, b_lr2_, b_lr3_, b_clt_, b_cle_, b_cgt_, b_cge_, b_ceq_, b_cne_, b_cin_, b_cni_, b_badbin_, b_badcmp_, b_wseqL_, b_wseqT_, b_wr1_, b_wr2_, b_wr3_, b_wenL_, b_wenT_, bad_neg_, bad_idx_, bad_rev_, bad_cnt_, bad_len_, bad_sum_, bad_max1_, bad_min1_, bad_max2_, bad_min2_, bad_abs_, bad_toint_, bad_totup_, bad_tolst_, bad_sorted_, bad_repr_, bad_mint_, bad_any_, bad_all_, bad_lrange1_, bad_lrange2_, bad_lrange3_, bad_slc_, bad_dict_, bad_ixL_, bad_ixT_, p20, p21, p10, p30, p31, p32, rd0_, rv0_, ro0_, rl0_, rd1_, rv1_, ro1_, rl1_, rd2_, rv2_, ro2_, rl2_, rd3_, rv3_, ro3_, rl3_, rd4_, rv4_, ro4_, rl4_, rd5_, rv5_, ro5_, rl5_, rd6_, rv6_, ro6_, rl6_, rd7_, rv7_, ro7_, rl7_, rd8_, rv8_, ro8_, rl8_, rd9_, rv9_, ro9_, rl9_, rd10_, rv10_, ro10_, rl10_, rd11_, rv11_, ro11_, rl11_, rd12_, rv12_, ro12_, rl12_, rd13_, rv13_, ro13_, rl13_, rd14_, rv14_, ro14_, rl14_, rd15_, rv15_, ro15_, rl15_, rd16_, rv16_, ro16_, rl16_, rd17_, rv17_, ro17_, rl17_, e1, List.length_map, decide_eq_true e2, b_min2_, e3, place_nat h1, row_get h1, eqD_int, e5, b_tointB_, in_intL, hc, hl2, List.map_append, Int.add_zero]
      · have e2 : ¬ ((q.2 + 1 : Nat) : Int) < (p.length : Int) := by omega
        simp only [run_f, s_st, s_nil', k_nx, k_rt, k_bk, k_ct, m_asg, m_asgO, m_asgT, m_par, m_set, m_app, m_expr, m_ite, m_for, m_ret, m_sput, m_sfill, v_var, v_bor, v_int, v_bl, v_str, v_non, v_sget, v_not, v_and, v_or, v_ife, v_tup, v_lst, v_dnew, v_call, v_bi, v_comp, o_nil', o_bor, e_nil, e_star, t_nil', t_ex, c_turn, asB, asI, isSrc, outR, bindT, bindTs, putsE, fr, szLine, List.length_cons, List.length_nil, List.map_cons, List.map_nil, List.cons_append, List.nil_append, List.append_nil, List.getElem?_cons_zero, List.getElem?_cons_succ, List.set_cons_zero, List.set_cons_succ, List.replicate_zero, List.replicate_succ, List.getD_cons_zero, Nat.reduceSub, Nat.reduceAdd, Option.bind_some, Option.bind_none, Option.map_some, if_true, if_false, Bool.and_true, Bool.true_and, Bool.not_true, Bool.not_false, Bool.or_true, Bool.true_or, Bool.false_or, Bool.or_false, Bool.and_false, Bool.false_and, Bool.and_self, Bool.or_self, Bool.false_eq_true, startE, reduceCtorEq, List.contains_nil, List.contains_cons, Nat.reduceBEq, ite_self, Nat.reduceLeDiff, Nat.reduceEqDiff, Int.reduceLE, Int.reduceLT, Int.reduceNeg, Int.reduceAdd, Int.reduceSub, ↓reduceIte, decide_true, decide_false, true_or, or_true, or_false, false_or, or_self, not_true_eq_false, not_false_eq_true, if_true, itemsL_, itemsT_, o_var_, e_var_, o_mv_, e_mv_, o_rel_, e_rel_, o_int_, e_int_, o_bl_, e_bl_, o_str_, e_str_, o_non_, e_non_, o_not_, e_not_, o_and_, e_and_, o_or_, e_or_, o_ife_, e_ife_, o_tup_, e_tup_, o_lst_, e_lst_, o_dnew_, e_dnew_, o_call_, e_call_, o_bi_, e_bi_, o_pop_, e_pop_, o_popAt_, e_popAt_, o_sget_, e_sget_, o_comp_, e_comp_, e_bor_, b_add_, b_addT_, b_addL_, b_sub_, b_mod_, b_fdiv_, b_cmp_, b_neg_, b_idxL_, b_idxT_, b_idxD_, b_slcTt_, b_slcTf_, b_slcLt_, b_slcLf_, b_revL_, b_lenL_, b_lenT_, b_abs_, b_toint_, b_totupL_, b_totupT_, b_tolstL_, b_tolstT_, b_repr_, b_lr1_, b_lr2_, b_lr3_, b_clt_, b_cle_, b_cgt_, b_cge_, b_ceq_, b_cne_, b_cin_, b_cni_, b_badbin_, b_badcmp_, b_wseqL_, b_wseqT_, b_wr1_, b_wr2_, b_wr3_, b_wenL_, b_wenT_, bad_neg_, bad_idx_, bad_rev_, bad_cnt_, bad_len_, bad_sum_, bad_max1_, bad_min1_, bad_max2_, bad_min2_, bad_abs_, bad_toint_, bad_totup_, bad_tolst_, bad_sorted_, bad_repr_, bad_mint_, bad_any_, bad_all_, bad_lrange1_, bad_lrange2_, bad_lrange3_, bad_slc_, bad_dict_, bad_ixL_, bad_ixT_, p20, p21, p10, p30, p31, p32, rd0_, rv0_, ro0_, rl0_, rd1_, rv1_, ro1_, rl1_, rd2_, rv2_, ro2_, rl2_, rd3_, rv3_, ro3_, rl3_, rd4_, rv4_, ro4_, rl4_, rd5_, rv5_, ro5_, rl5_, rd6_, rv6_, ro6_, rl6_, rd7_, rv7_, ro7_, rl7_, rd8_, rv8_, ro8_, rl8_, rd9_, rv9_, ro9_, rl9_, rd10_, rv10_, ro10_, rl10_, rd11_, rv11_, ro11_, rl11_, rd12_, rv12_, ro12_, rl12_, rd13_, rv13_, ro13_, rl13_, rd14_, rv14_, ro14_, rl14_, rd15_, rv15_, ro15_, rl15_, rd16_, rv16_, ro16_, rl16_, rd17_, rv17_, ro17_, rl17_, e1, List.length_map, decide_eq_false e2, b_tointB_, in_intL, hc, hl2, List.map_append, Int.add_zero]
end Toy
end

section
set_option linter.all false
set_option autoImplicit false
set_option maxRecDepth 10000
namespace Toy
open Rf
variable (cf : Cf) (F : Nat)
abbrev evB : List Sm := [.asg 3 (.bi .tolst [.bi (.slc false true) [.bor 1, .non, .var 2]]),
    .asgO 4 (.lst [.bi .idx [.bor 3, .int 0]]),
    .for (.nm 5) .seq [.bi (.slc true false) [.bor 3, .int 1, .non]] [bpE],
    .par [true, false] [6, 7] [.lst [], .int 0],
    .for (.nm 5) .seq [.bi (.slc true false) [.bor 3, .int 1, .non]] [bg1E, bg2E],
    .asg 1 (.bi (.bin .add) [.bi (.bin .add) [.bi .totup [.bor 6], .tup [.bi .idx [.bor 4, .bi .neg [.int 1]]]], .bi (.slc true false) [.bor 1, .var 2, .non]])]
theorem promS_len (p : List Int) : ∀ (ws : List Int) (q : List Int × Nat), (ws.foldl (promS p) q).1.length = q.1.length + ws.length
  | [], q => rfl
  | w :: ws, q => by
    rw [List.foldl_cons, promS_len p ws, List.length_cons]
    unfold promS
    split <;> simp <;> omega
theorem levac_step {n : Int} {ps : List (Int × Int)} {r : List Int} (L : Lin n ps r) (i : Nat) (hi : i + 2 ≤ r.length) (x3 x4 x5 x6 x7 : Option (Bool × D)) (h5 : nOw x5) (s : Sr) :
    ∃ y3 y4 y5 y6 y7, evSs cf false F evB [some (false, ordD n ps), some (false, rowD r), some (false, .int (2 + (i : Int))), x3, x4, x5, x6, x7] s = some (.nx [some (false, ordD n ps), some (false, rowD (alongR ps r (List.range (i + 1)))), some (false, .int (2 + (i : Int))), y3, y4, y5, y6, y7] s) ∧ nOw y5 := by
  have hsm := L.small
  obtain ⟨part, hpart⟩ : ∃ part, part = r.take (i + 2) := ⟨_, rfl⟩
  have hpl : part.length = i + 2 := by rw [hpart, List.length_take]; omega
  have ndp : part.Nodup := by rw [hpart]; exact L.nd.sublist (List.take_sublist _ _)
  obtain ⟨c, ws, hcw⟩ : ∃ c ws, part = c :: ws := by
    cases h : part with
    | nil => rw [h] at hpl; simp at hpl
    | cons c ws => exact ⟨c, ws, rfl⟩
  have hwl : ws.length = i + 1 := by rw [hcw, List.length_cons] at hpl; omega
  have hP : pathR ps part = ws.foldl (pathS ps) [c] := by rw [hcw]; rfl
  have ⟨hP1, hP2⟩ := pathR_len ps part (by omega)
  have he : (2 + (i : Int)) = ((i + 2 : Nat) : Int) := by omega
  have c1 := slc_to (r := r) (i := i + 2) hi
  rw [← hpart, ← he] at c1
  have c2 := slc_from (r := part) (i := 1) (by omega)
  have hd1 : part.drop 1 = ws := by rw [hcw]; rfl
  rw [hd1, Int.natCast_one] at c2
  have c3 := slc_from (r := r) (i := i + 2) hi
  rw [← he] at c3
  have g0 : place (List.map D.int part).length 0 = some 0 := by rw [List.length_map]; exact place_nat (n := part.length) (i := 0) (by omega)
  have g1 : (List.map D.int part)[0]? = some (.int c) := by rw [hcw]; rfl
  obtain ⟨y5, p1, n5⟩ := pathL_for cf F n ps (some (false, rowD r)) (some (false, .int (2 + (i : Int)))) (some (false, .lst (part.map .int))) x6 x7 false s ws [c] x5 (by simp) (by simp; omega) h5
  rw [← hP] at p1
  have p1' : forT (forB cf false F (.nm 5) [bpE]) (ws.map .int) [some (false, ordD n ps), some (false, rowD r), some (false, .int (2 + (i : Int))), some (false, .lst (part.map .int)), some (true, .lst [.int c]), x5, x6, x7] s = _ := p1
  obtain ⟨e, he1, he2⟩ := path_sub ps ws [c]
  rw [← hP] at he1
  obtain ⟨y5', p2, n5'⟩ := goneL_for cf F (pathR ps part) (by omega) (some (false, ordD n ps)) (some (false, rowD r)) (some (false, .int (2 + (i : Int)))) (some (false, .lst (part.map .int))) false s ws ([], 0) y5 hP1 (by simp; omega) (by rw [hcw] at ndp; exact (List.nodup_cons.mp ndp).2) (by rw [he1]; exact he2) (by
    rw [he1]
    intro x hx hx2
    have : x = c := by simpa using hx
    rw [hcw] at ndp
    exact (List.nodup_cons.mp ndp).1 (this ▸ hx2)) n5
  have p2' : forT (forB cf false F (.nm 5) [bg1E, bg2E]) (ws.map .int) [some (false, ordD n ps), some (false, rowD r), some (false, .int (2 + (i : Int))), some (false, .lst (part.map .int)), some (true, .lst ((pathR ps part).map .int)), y5, some (true, .lst []), some (false, .int 0)] s = _ := p2
  obtain ⟨la, hla⟩ : ∃ la, la = (ws.foldl (promS (pathR ps part)) ([], 0)).1 := ⟨_, rfl⟩
  obtain ⟨go, hgo⟩ : ∃ go, go = (ws.foldl (promS (pathR ps part)) ([], 0)).2 := ⟨_, rfl⟩
  rw [← hla, ← hgo] at p2'
  have hll : la.length = i + 1 := by rw [hla, promS_len, hwl]; simp
  have g2 : place (List.map D.int (pathR ps part)).length (-1) = some ((pathR ps part).length - 1) := by rw [List.length_map]; exact place_neg1 hP1
  have g3 := row_get (r := pathR ps part) (i := (pathR ps part).length - 1) (by omega)
  have l1 : (List.map D.int la).length + 1 ≤ 16777216 := by rw [List.length_map]; omega
  have l2 : (List.map D.int la ++ [D.int ((pathR ps part).getD ((pathR ps part).length - 1) 0)]).length + (List.map D.int (r.drop (i + 2))).length ≤ 16777216 := by
    rw [List.length_append, List.length_map, List.length_map, List.length_drop, List.length_singleton]; omega
  have hfin : List.map D.int la ++ [D.int ((pathR ps part).getD ((pathR ps part).length - 1) 0)] ++ List.map D.int (r.drop (i + 2)) = (alongR ps r (List.range (i + 1))).map .int := by
    rw [← (prom_part L i hi).1, ← hpart, List.map_append]
    congr 1
    unfold promR
    rw [hd1, ← hla, List.map_append]; rfl
  refine ⟨some (false, .lst (part.map .int)), some (true, .lst ((pathR ps part).map .int)), y5', some (true, .lst (la.map .int)), some (false, .int (go : Nat)), ?_, n5'⟩
  simp only [run_f, s_st, s_nil', k_nx, k_rt, k_bk, k_ct, m_asg, m_asgO, m_asgT, m_par, m_set, m_app, m_expr, m_ite, m_for, m_ret, m_sput, m_sfill, v_var, v_bor, v_int, v_bl, v_str, v_non, v_sget, v_not, v_and, v_or, v_ife, v_tup, v_lst, v_dnew, v_call, v_bi, v_comp, o_nil', o_bor, e_nil, e_star, t_nil', t_ex, c_turn, asB, asI, isSrc, outR, bindT, bindTs, putsE, fr, szLine, List.length_cons, List.length_nil, List.map_cons, List.map_nil, List.cons_append, List.nil_append, List.append_nil, List.getElem?_cons_zero, List.getElem?_cons_succ, List.set_cons_zero, List.set_cons_succ, List.replicate_zero, List.replicate_succ, List.getD_cons_zero, Nat.reduceSub, Nat.reduceAdd, Option.bind_some, Option.bind_none, Option.map_some, if_true, if_false, Bool.and_true, Bool.true_and, Bool.not_true, Bool.not_false, Bool.or_true, Bool.true_or, Bool.false_or, Bool.or_false, Bool.and_false, Bool.false_and, Bool.and_self, Bool.or_self, Bool.false_eq_true, startE, reduceCtorEq, List.contains_nil, List.contains_cons, Nat.reduceBEq, ite_self, Nat.reduceLeDiff, Nat.reduceEqDiff, Int.reduceLE, Int.reduceLT, Int.reduceNeg, Int.reduceAdd, Int.reduceSub, ↓reduceIte, decide_true, decide_false, true_or, or_true, or_false, false_or, or_self, not_true_eq_false, not_false_eq_true, if_true, itemsL_, itemsT_, o_var_, e_var_, o_mv_, e_mv_, o_rel_, e_rel_, o_int_, e_int_, o_bl_, e_bl_, o_str_, e_str_, o_non_, e_non_, o_not_, e_not_, o_and_, e_and_, o_or_, e_or_, o_ife_, e_ife_, o_tup_, e_tup_, o_lst_, e_lst_, o_dnew_, e_dnew_, o_call_, e_call_, o_bi_, e_bi_, o_pop_, e_pop_, o_popAt_, e_popAt_, o_sget_, e_sget_, o_comp_, e_comp_, e_bor_, b_add_, b_addT_, b_addL_, b_sub_, b_mod_, b_fdiv_, b_cmp_, b_neg_, b_idxL_, b_idxT_, b_idxD_, b_slcTt_, b_slcTf_, b_slcLt_, b_slcLf_, b_revL_, b_lenL_, b_lenT_, b_abs_, b_toint_, b_totupL_, b_totupT_, b_tolstL_, b_tolstT_, b_repr_, b_lr1_, b_lr2_, b_lr3_, b_clt_, b_cle_, b_cgt_, b_cge_, b_ceq_, b_cne_, b_cin_, b_cni_, b_badbin_, b_badcmp_, b_wseqL_, b_wseqT_, b_wr1_, b_wr2_, b_wr3_, b_wenL_, b_wenT_, bad_neg_, bad_idx_, bad_rev_, bad_cnt_, bad_len_, bad_sum_, bad_max1_, bad_min1_, bad_max2_, bad_min2_, bad_abs_, bad_toint_, bad_totup_, bad_tolst_, bad_sorted_, bad_repr_, bad_mint_, bad_any_, bad_all_, bad_lrange1_, bad_lrange2_, bad_lrange3_, bad_slc_, bad_dict_, bad_ixL_, bad_ixT_, p20, p21, p10, p30, p31, p32, rd0_, rv0_, ro0_, rl0_, rd1_, rv1_, ro1_, rl1_, rd2_, rv2_, ro2_, rl2_, rd3_, rv3_, ro3_, rl3_, rd4_, rv4_, ro4_, rl4_, rd5_, rv5_, ro5_, rl5_, rd6_, rv6_, ro6_, rl6_, rd7_, rv7_, ro7_, rl7_, rd8_, rv8_, ro8_, rl8_, rd9_, rv9_, ro9_, rl9_, rd10_, rv10_, ro10_, rl10_, rd11_, rv11_, ro11_, rl11_, rd12_, rv12_, ro12_, rl12_, rd13_, rv13_, ro13_, rl13_, rd14_, rv14_, ro14_, rl14_, rd15_, rv15_, ro15_, rl15_, rd16_, rv16_, ro16_, rl16_, rd17_, rv17_, ro17_, rl17_, c1, g0, g1, c2, p1', p2', g2, g3, l1, c3, l2, hfin]
theorem levac_for {n : Int} {ps : List (Int × Int)} (m : Nat) (s : Sr) : ∀ (is : List Nat) (r : List Int) (x2 x3 x4 x5 x6 x7 : Option (Bool × D)), (∀ i ∈ is, i + 2 ≤ m) → Lin n ps r → r.length = m → nOw x2 → nOw x5 →
    ∃ y2 y3 y4 y5 y6 y7, forT (forB cf false F (.nm 2) evB) (is.map fun (i : Nat) => D.int (2 + (i : Int))) [some (false, ordD n ps), some (false, rowD r), x2, x3, x4, x5, x6, x7] s = some (.nx [some (false, ordD n ps), some (false, rowD (alongR ps r (is.flatMap fun i => List.range (i + 1)))), y2, y3, y4, y5, y6, y7] s)
  | [], r, x2, x3, x4, x5, x6, x7, _, _, _, _, _ => ⟨x2, x3, x4, x5, x6, x7, rfl⟩
  | i :: is, r, x2, x3, x4, x5, x6, x7, hi, L, hm, h2, h5 => by
    have i1 := hi i List.mem_cons_self
    obtain ⟨y3, y4, y5, y6, y7, e1, n5⟩ := levac_step cf F L i (by omega) x3 x4 x5 x6 x7 h5 s
    have hl := alongR_length ps (List.range (i + 1)) r (fun k hk => by rw [List.mem_range] at hk; omega)
    obtain ⟨z2, z3, z4, z5, z6, z7, e2⟩ := levac_for m s is (alongR ps r (List.range (i + 1))) (some (false, .int (2 + (i : Int)))) y3 y4 y5 y6 y7 (fun j hj => hi j (List.mem_cons_of_mem _ hj)) (prom_part L i (by omega)).2 (by omega) (nOw_v _) n5
    refine ⟨z2, z3, z4, z5, z6, z7, (f_step ?_).trans (e2.trans (by rw [List.flatMap_cons, along_app]))⟩
    unfold forB
    rw [bind_nm (fun d h => h2 d (by simpa using h))]
    exact e1
theorem levac_run {n : Int} {ps : List (Int × Int)} {r : List Int} (L : Lin n ps r) (s : Sr) : runF cf F d__law_evacuated [ordD n ps, rowD r] s = some (rowD (alongR ps r (upW r.length)), s) := by
  have h1 := L.pos
  have h2 := L.small
  have h3 := L.len
  obtain ⟨y2, y3, y4, y5, y6, y7, e⟩ := levac_for cf F r.length s (List.range (r.length - 1)).reverse r none none none none none none (fun i hi => by rw [List.mem_reverse, List.mem_range] at hi; omega) L rfl (fun d h => by cases h) (fun d h => by cases h)
  have hr := range_dn (a := 1) (b := 2) (k := r.length - 1) rfl (by omega) (by decide)
  have hn : (1 : Int) + ((r.length - 1 : Nat) : Int) = n := by omega
  rw [hn] at hr
  simp only [run_f, s_st, s_nil', k_nx, k_rt, k_bk, k_ct, m_asg, m_asgO, m_asgT, m_par, m_set, m_app, m_expr, m_ite, m_for, m_ret, m_sput, m_sfill, v_var, v_bor, v_int, v_bl, v_str, v_non, v_sget, v_not, v_and, v_or, v_ife, v_tup, v_lst, v_dnew, v_call, v_bi, v_comp, o_nil', o_bor, e_nil, e_star, t_nil', t_ex, c_turn, asB, asI, isSrc, outR, bindT, bindTs, putsE, fr, szLine, List.length_cons, List.length_nil, List.map_cons, List.map_nil, List.cons_append, List.nil_append, List.append_nil, List.getElem?_cons_zero, List.getElem?_cons_succ, List.set_cons_zero, List.set_cons_succ, List.replicate_zero, List.replicate_succ, List.getD_cons_zero, Nat.reduceSub, Nat.reduceAdd, Option.bind_some, Option.bind_none, Option.map_some, if_true, if_false, Bool.and_true, Bool.true_and, Bool.not_true, Bool.not_false, Bool.or_true, Bool.true_or, Bool.false_or, Bool.or_false, Bool.and_false, Bool.false_and, Bool.and_self, Bool.or_self, Bool.false_eq_true, startE, reduceCtorEq, List.contains_nil, List.contains_cons, Nat.reduceBEq, ite_self, Nat.reduceLeDiff, Nat.reduceEqDiff, Int.reduceLE, Int.reduceLT, Int.reduceNeg, Int.reduceAdd, Int.reduceSub, ↓reduceIte, decide_true, decide_false, true_or, or_true, or_false, false_or, or_self, not_true_eq_false, not_false_eq_true, if_true, itemsL_, itemsT_, o_var_, e_var_, o_mv_, e_mv_, o_rel_, e_rel_, o_int_, e_int_, o_bl_, e_bl_, o_str_, e_str_, o_non_, e_non_, o_not_, e_not_, o_and_, e_and_, o_or_, e_or_, o_ife_, e_ife_, o_tup_, e_tup_, o_lst_, e_lst_, o_dnew_, e_dnew_, o_call_, e_call_, o_bi_, e_bi_, o_pop_, e_pop_, o_popAt_, e_popAt_, o_sget_, e_sget_, o_comp_, e_comp_, e_bor_, b_add_, b_addT_, b_addL_, b_sub_, b_mod_, b_fdiv_, b_cmp_, b_neg_, b_idxL_, b_idxT_, b_idxD_, b_slcTt_, b_slcTf_, b_slcLt_, b_slcLf_, b_revL_, b_lenL_, b_lenT_, b_abs_, b_toint_, b_totupL_, b_totupT_, b_tolstL_, b_tolstT_, b_repr_, b_lr1_, b_lr2_, b_lr3_, b_clt_, b_cle_, b_cgt_, b_cge_, b_ceq_, b_cne_, b_cin_, b_cni_, b_badbin_, b_badcmp_, b_wseqL_, b_wseqT_, b_wr1_, b_wr2_, b_wr3_, b_wenL_, b_wenT_, bad_neg_, bad_idx_, bad_rev_, bad_cnt_, bad_len_, bad_sum_, bad_max1_, bad_min1_, bad_max2_, bad_min2_, bad_abs_, bad_toint_, bad_totup_, bad_tolst_, bad_sorted_, bad_repr_, bad_mint_, bad_any_, bad_all_, bad_lrange1_, bad_lrange2_, bad_lrange3_, bad_slc_, bad_dict_, bad_ixL_, bad_ixT_, p20, p21, p10, p30, p31, p32, rd0_, rv0_, ro0_, rl0_, rd1_, rv1_, ro1_, rl1_, rd2_, rv2_, ro2_, rl2_, rd3_, rv3_, ro3_, rl3_, rd4_, rv4_, ro4_, rl4_, rd5_, rv5_, ro5_, rl5_, rd6_, rv6_, ro6_, rl6_, rd7_, rv7_, ro7_, rl7_, rd8_, rv8_, ro8_, rl8_, rd9_, rv9_, ro9_, rl9_, rd10_, rv10_, ro10_, rl10_, rd11_, rv11_, ro11_, rl11_, rd12_, rv12_, ro12_, rl12_, rd13_, rv13_, ro13_, rl13_, rd14_, rv14_, ro14_, rl14_, rd15_, rv15_, ro15_, rl15_, rd16_, rv16_, ro16_, rl16_, rd17_, rv17_, ro17_, rl17_, d__law_evacuated, b__law_evacuated, hr, e]
  rfl
end Toy
end

section
--SLOTS 16
set_option linter.all false
set_option autoImplicit false
set_option maxRecDepth 10000
namespace Toy
open Rf
/-- the words, on a list of at most ten works -/
theorem ev_facts {n : Int} {ps : List (Int × Int)} {r : List Int} (L : Lin n ps r) (h : r.length ≤ 10) :
    alongR ps (alongR ps r (upW r.length)) (upW r.length) = r ∧ alongR ps (alongR ps r (downW r.length)) (downW r.length) = r ∧
    alongR ps (promR ps (alongR ps r (upW r.length))) (upW r.length) = demR ps r ∧ alongR ps (promR ps (alongR ps r (downW r.length))) (downW r.length) = demR ps r ∧
    alongR ps (alongR ps r (upW r.length)) (downW r.length) = oftenS ps true r r.length ∧ alongR ps (alongR ps (oftenS ps true r r.length) (downW r.length)) (upW r.length) = r := by
  obtain ⟨a, b, c, d, e, f⟩ := chk_at h
  have vu : ∀ k ∈ upW r.length, k + 1 < r.length := fun k hk => upW_ok hk
  have vd : ∀ k ∈ downW r.length, k + 1 < r.length := fun k hk => downW_ok hk
  have vp : ∀ k ∈ proW r.length, k + 1 < r.length := fun k hk => proW_ok hk
  have vo : ∀ k ∈ oftW r.length r.length, k + 1 < r.length := fun k hk => oftW_ok hk
  have app : ∀ {u v : List Nat}, (∀ k ∈ u, k + 1 < r.length) → (∀ k ∈ v, k + 1 < r.length) → ∀ k ∈ u ++ v, k + 1 < r.length := fun hu hv k hk => by
    rcases List.mem_append.mp hk with hk | hk
    · exact hu k hk
    · exact hv k hk
  have rv : ∀ {u : List Nat}, (∀ k ∈ u, k + 1 < r.length) → ∀ k ∈ u.reverse, k + 1 < r.length := fun hu k hk => hu k (List.mem_reverse.mp hk)
  have Lu := (lalong_eq _ L vu).2
  have Ld := (lalong_eq _ L vd).2
  have lu := alongR_length ps _ r vu
  have ld := alongR_length ps _ r vd
  refine ⟨?_, ?_, ?_, ?_, ?_, ?_⟩
  · rw [← along_app]; exact word_id ps a (app vu vu)
  · rw [← along_app]; exact word_id ps b (app vd vd)
  · rw [prom_along Lu, lu, show List.range (r.length - 1) = proW r.length from rfl, ← along_app, ← along_app]
    exact word_eq ps c (app vu (app vp vu)) (rv vp)
  · rw [prom_along Ld, ld, show List.range (r.length - 1) = proW r.length from rfl, ← along_app, ← along_app]
    exact word_eq ps d (app vd (app vp vd)) (rv vp)
  · rw [oft_act r.length L rfl, ← along_app]
    exact (word_eq ps e vo (app vu vd)).symm
  · rw [oft_act r.length L rfl, ← along_app, ← along_app]
    exact word_id ps f (app vo (app vd vu))
theorem repr_two (a b : List Int) (ha : a.length ≤ 10000) (hb : b.length ≤ 10000) (sa : ∀ i ∈ a, sml i) (sb : ∀ i ∈ b, sml i) : biD .repr [.lst [rowD a, rowD b]] = some (.rep (.lst [rowD a, rowD b])) := by
  have h1 : D.shp (.lst [rowD a, rowD b]) 50 = true := by
    show (D.shp (rowD a) 49 && (D.shp (rowD b) 49 && true)) = true
    rw [shp_rowK a 48, shp_rowK b 48]; rfl
  have h2 : D.rsz (.lst [rowD a, rowD b]) = 72 * a.length + 3 + 2 + (72 * b.length + 3 + 2 + 0) + 3 := by
    show D.rszL (a.map .int) + 3 + 2 + (D.rszL (b.map .int) + 3 + 2 + 0) + 3 = _
    rw [rsz_ints sa, rsz_ints sb]
  rw [b_repr_, h1, h2, if_pos]
  rw [Bool.true_and, decide_eq_true_eq]; omega
theorem nats_row (ks : List Nat) : rowD (ks.map fun (k : Nat) => (k : Int)) = .tup (natsD ks) := by
  unfold rowD natsD
  rw [List.map_map]; rfl
theorem repr_words (a b : List Nat) (ha : a.length ≤ 10000) (hb : b.length ≤ 10000) (sa : ∀ i ∈ a, i < 1000) (sb : ∀ i ∈ b, i < 1000) : biD .repr [.lst [.tup (natsD a), .tup (natsD b)]] = some (.rep (.lst [.tup (natsD a), .tup (natsD b)])) := by
  have := repr_two (a.map fun (k : Nat) => (k : Int)) (b.map fun (k : Nat) => (k : Int)) (by rw [List.length_map]; exact ha) (by rw [List.length_map]; exact hb) (fun i hi => by
    obtain ⟨k, hk, rfl⟩ := List.mem_map.mp hi
    have := sa k hk
    unfold sml; omega) (fun i hi => by
    obtain ⟨k, hk, rfl⟩ := List.mem_map.mp hi
    have := sb k hk
    unfold sml; omega)
  rw [nats_row, nats_row] at this
  exact this
structure CF (cf : Cf) : Prop where
  c4 : ∀ n ps (r : List Int) s, 0 < r.length → r.length ≤ 100 → cf 4 [ordD n ps, rowD r] s = some (rowD (promR ps r), s)
  c5 : ∀ (n : Int) ps (r : List Int) s, n = r.length → 0 < r.length → r.length ≤ 100 → cf 5 [ordD n ps, rowD r] s = some (rowD (demR ps r), s)
  c6 : ∀ (n : Int) ps (r : List Int) (k : Int) s, n = r.length → 0 < r.length → r.length ≤ 100 → k.natAbs ≤ 1000 → cf 6 [ordD n ps, rowD r, .int k] s = some (rowD (oftenS ps (decide (0 < k)) r k.natAbs), s)
  c7 : ∀ (m : Nat) s, 1 ≤ m → m ≤ 100 → cf 7 [.int m] s = some (.tup (natsD (upW m)), s)
  c8 : ∀ (m : Nat) s, 1 ≤ m → m ≤ 100 → cf 8 [.int m] s = some (.tup (natsD (downW m)), s)
  c9 : ∀ (n : Int) ps (r : List Int) s, n = r.length → 0 < r.length → r.length ≤ 100 → cf 9 [ordD n ps, rowD r] s = some (rowD (alongR ps r (upW r.length)), s)
  c10 : ∀ (n : Int) ps (r : List Int) s, n = r.length → 0 < r.length → r.length ≤ 100 → cf 10 [ordD n ps, rowD r] s = some (rowD (alongR ps r (downW r.length)), s)
  c13 : OfOk cf
  c15 : ∀ (most : Int) s, 1 ≤ most → most ≤ 100 → ∃ n ps R s', cf 15 [.src, .int most] s = some (.tup [ordD n ps, rowD R], s') ∧ OrdOk n ps R ∧ (R.length : Int) ≤ most ∧ s'.fz = s.fz
  c16 : ∀ n ps (r : List Int) s, (∀ p ∈ ps, p.1 ∈ r ∧ p.2 ∈ r) → s.fz = true → cf 16 [ordD n ps, rowD r] s = some (.bl (isL ps r), s)
  c18 : ∀ n ps (r : List Int) (x : D) (ks : List Nat) s, Lin n ps r → D.items x = some (natsD ks) → (∀ k ∈ ks, k + 1 < r.length) → s.fz = true → cf 18 [ordD n ps, rowD r, x] s = some (rowD (alongR ps r ks), s)
  c19 : ∀ n ps (R : List Int) s, Lin n ps R → ∃ q s', cf 19 [.src, ordD n ps] s = some (rowD q, s') ∧ Lin n ps q ∧ s'.fz = s.fz
  c20 : ∀ n ps (r : List Int) s, Lin n ps r → cf 20 [ordD n ps, rowD r] s = some (rowD (alongR ps r (upW r.length)), s)
abbrev w1 : Sm := .asgT (.tp [(.nm 3), (.nm 7)]) (.call 15 false [.var 1, .bi .idx [.lst [.int 4, .int 6, .int 8, .int 10], .bor 2]])
abbrev w2 : Sm := .asgT (.tp [(.nm 8), (.nm 9)]) (.tup [.bi .idx [.bor 3, .int 0], .call 13 false [.var 1, .lst [.var 7, .call 19 false [.var 1, .var 3]]]])
abbrev w3 : Sm := .par [false, false, false] [10, 11, 12] [.bi .repr [.lst [.var 3, .var 9]], .lst [], .lst []]
abbrev w4 : Sm := .for (.nm 4) .rng3 [.bi (.bin .sub) [.bor 8, .int 1], .int 0, .bi .neg [.int 1]] [.asg 11 (.bi (.bin .add) [.bor 11, .bi .lrange1 [.bor 4]]), .asg 12 (.bi (.bin .add) [.bor 12, .comp [15] (.nm 15) .rng1 [.bor 4] [] (.bi (.bin .sub) [.bi (.bin .sub) [.bor 8, .int 2], .bor 15])])]
abbrev w5 : Sm := .ite (.bi (.cmp .ne) [.bi .repr [.lst [.call 7 false [.var 8], .call 8 false [.var 8]]], .bi .repr [.lst [.bi .totup [.bor 11], .bi .totup [.bor 12]]]]) [.ret (.bl false)] []
abbrev w6 : Sm := .par [false, false] [13, 14] [.call 9 false [.var 3, .var 9], .call 10 false [.var 3, .var 9]]
abbrev w7 : Sm := .ite (.bi (.cmp .ne) [.bi .repr [.lst [.var 13, .var 14]], .bi .repr [.lst [.call 20 false [.var 3, .var 9], .call 18 false [.var 3, .var 9, .var 12]]]]) [.ret (.bl false)] []
abbrev w8 : Sm := .ite (.or (.bi (.cmp .ne) [.call 18 false [.var 3, .var 9, .var 11], .bor 13]) (.bi (.cmp .ne) [.call 9 false [.var 3, .var 13], .bor 9])) [.ret (.bl false)] []
abbrev w9 : Sm := .ite (.bi (.cmp .ne) [.call 10 false [.var 3, .var 14], .bor 9]) [.ret (.bl false)] []
abbrev w10 : Sm := .asg 5 (.call 5 false [.var 3, .var 9])
abbrev w11 : Sm := .ite (.or (.bi (.cmp .ne) [.call 9 false [.var 3, .call 4 false [.var 3, .var 13]], .bor 5]) (.bi (.cmp .ne) [.call 10 false [.var 3, .call 4 false [.var 3, .var 14]], .bor 5])) [.ret (.bl false)] []
abbrev w12 : Sm := .asg 6 (.call 6 false [.var 3, .var 9, .var 8])
abbrev w13 : Sm := .ite (.or (.bi (.cmp .ne) [.bor 6, .call 10 false [.var 3, .var 13]]) (.bi (.cmp .ne) [.call 9 false [.var 3, .call 10 false [.var 3, .var 6]], .bor 9])) [.ret (.bl false)] []
abbrev w14 : Sm := .ite (.or (.not (.call 16 false [.var 3, .var 13])) (.or (.not (.call 16 false [.var 3, .var 14])) (.bi (.cmp .ne) [.bi .repr [.lst [.var 3, .var 9]], .bor 10]))) [.ret (.bl false)] []
abbrev lapB : List Sm := [w1, w2, w3, w4, w5, w6, w7, w8, w9, w10, w11, w12, w13, w14]

abbrev E16 (x2 x3 x4 x5 x6 x7 x8 x9 x10 x11 x12 x13 x14 x15 : Option (Bool × D)) : Env := [none, some (false, .src), x2, x3, x4, x5, x6, x7, x8, x9, x10, x11, x12, x13, x14, x15]
variable (cf : Cf) (F : Nat) (x2 x3 x4 x5 x6 x7 x8 x9 x10 x11 x12 x13 x14 x15 : Option (Bool × D))
theorem w1_run (C : CF cf) (l : Nat) (hl : l < 4) (h3 : nOw x3) (h7 : nOw x7) (s : Sr) : ∃ n ps R s', evS cf false F w1 (E16 (some (false, .int (l : Int))) x3 x4 x5 x6 x7 x8 x9 x10 x11 x12 x13 x14 x15) s = some (.nx (E16 (some (false, .int (l : Int))) (some (false, ordD n ps)) x4 x5 x6 (some (false, rowD R)) x8 x9 x10 x11 x12 x13 x14 x15) s') ∧ Lin n ps R ∧ ps.length ≤ 10000 ∧ R.length ≤ 10 ∧ s'.fz = s.fz := by
  obtain ⟨v, hv, v1, v2⟩ : ∃ v : Int, ([.int 4, .int 6, .int 8, .int 10] : List D)[l]? = some (.int v) ∧ 1 ≤ v ∧ v ≤ 10 := by
    match l, hl with
    | 0, _ => exact ⟨4, rfl, by decide, by decide⟩
    | 1, _ => exact ⟨6, rfl, by decide, by decide⟩
    | 2, _ => exact ⟨8, rfl, by decide, by decide⟩
    | 3, _ => exact ⟨10, rfl, by decide, by decide⟩
  obtain ⟨n, ps, R, s', e, O, hR, fz⟩ := C.c15 v s v1 (by omega)
  have hp := place_nat hl
  have hb : bindT (.tp [.nm 3, .nm 7]) (.tup [ordD n ps, rowD R]) (E16 (some (false, .int (l : Int))) x3 x4 x5 x6 x7 x8 x9 x10 x11 x12 x13 x14 x15) = some (E16 (some (false, .int (l : Int))) (some (false, ordD n ps)) x4 x5 x6 (some (false, rowD R)) x8 x9 x10 x11 x12 x13 x14 x15) := bind_2 (fun d h => h3 d (by simpa using h)) (fun d h => h7 d (by simpa using h))
  refine ⟨n, ps, R, s', ?_, O.lin, O.few, by omega, fz⟩
  simp only [run_f, s_st, s_nil', k_nx, k_rt, k_bk, k_ct, m_asg, m_asgO, m_asgT, m_par, m_set, m_app, m_expr, m_ite, m_for, m_ret, m_sput, m_sfill, v_var, v_bor, v_int, v_bl, v_str, v_non, v_sget, v_not, v_and, v_or, v_ife, v_tup, v_lst, v_dnew, v_call, v_bi, v_comp, o_nil', o_bor, e_nil, e_star, t_nil', t_ex, c_turn, asB, asI, isSrc, outR, putsE, fr, szLine, List.length_cons, List.length_nil, List.map_cons, List.map_nil, List.cons_append, List.nil_append, List.append_nil, List.getElem?_cons_zero, List.getElem?_cons_succ, List.set_cons_zero, List.set_cons_succ, List.replicate_zero, List.replicate_succ, List.getD_cons_zero, Nat.reduceSub, Nat.reduceAdd, Option.bind_some, Option.bind_none, Option.map_some, if_true, if_false, Bool.and_true, Bool.true_and, Bool.not_true, Bool.not_false, Bool.or_true, Bool.true_or, Bool.false_or, Bool.or_false, Bool.and_false, Bool.false_and, Bool.and_self, Bool.or_self, Bool.false_eq_true, startE, reduceCtorEq, List.contains_nil, List.contains_cons, Nat.reduceBEq, ite_self, Nat.reduceLeDiff, Nat.reduceEqDiff, Int.reduceLE, Int.reduceLT, Int.reduceNeg, Int.reduceAdd, Int.reduceSub, ↓reduceIte, decide_true, decide_false, true_or, or_true, or_false, false_or, or_self, not_true_eq_false, not_false_eq_true, if_true, itemsL_, itemsT_, o_var_, e_var_, o_mv_, e_mv_, o_rel_, e_rel_, o_int_, e_int_, o_bl_, e_bl_, o_str_, e_str_, o_non_, e_non_, o_not_, e_not_, o_and_, e_and_, o_or_, e_or_, o_ife_, e_ife_, o_tup_, e_tup_, o_lst_, e_lst_, o_dnew_, e_dnew_, o_call_, e_call_, o_bi_, e_bi_, o_pop_, e_pop_, o_popAt_, e_popAt_, o_sget_, e_sget_, o_comp_, e_comp_, e_bor_, b_add_, b_addT_, b_addL_, b_sub_, b_mod_, b_fdiv_, b_cmp_, b_neg_, b_idxL_, b_idxT_, b_idxD_, b_slcTt_, b_slcTf_, b_slcLt_, b_slcLf_, b_revL_, b_lenL_, b_lenT_, b_abs_, b_toint_, b_totupL_, b_totupT_, b_tolstL_, b_tolstT_, b_repr_, b_lr1_, b_lr2_, b_lr3_, b_clt_, b_cle_, b_cgt_, b_cge_, b_ceq_, b_cne_, b_cin_, b_cni_, b_badbin_, b_badcmp_, b_wseqL_, b_wseqT_, b_wr1_, b_wr2_, b_wr3_, b_wenL_, b_wenT_, bad_neg_, bad_idx_, bad_rev_, bad_cnt_, bad_len_, bad_sum_, bad_max1_, bad_min1_, bad_max2_, bad_min2_, bad_abs_, bad_toint_, bad_totup_, bad_tolst_, bad_sorted_, bad_repr_, bad_mint_, bad_any_, bad_all_, bad_lrange1_, bad_lrange2_, bad_lrange3_, bad_slc_, bad_dict_, bad_ixL_, bad_ixT_, p20, p21, p10, p30, p31, p32, rd0_, rv0_, ro0_, rl0_, rd1_, rv1_, ro1_, rl1_, rd2_, rv2_, ro2_, rl2_, rd3_, rv3_, ro3_, rl3_, rd4_, rv4_, ro4_, rl4_, rd5_, rv5_, ro5_, rl5_, rd6_, rv6_, ro6_, rl6_, rd7_, rv7_, ro7_, rl7_, rd8_, rv8_, ro8_, rl8_, rd9_, rv9_, ro9_, rl9_, rd10_, rv10_, ro10_, rl10_, rd11_, rv11_, ro11_, rl11_, rd12_, rv12_, ro12_, rl12_, rd13_, rv13_, ro13_, rl13_, rd14_, rv14_, ro14_, rl14_, rd15_, rv15_, ro15_, rl15_, rd16_, rv16_, ro16_, rl16_, rd17_, rv17_, ro17_, rl17_, hp, hv, e, hb]
theorem w2_run (C : CF cf) {n : Int} {ps : List (Int × Int)} {R : List Int} (L : Lin n ps R) (h8 : nOw x8) (h9 : nOw x9) (s : Sr) : ∃ r s', evS cf false F w2 (E16 x2 (some (false, ordD n ps)) x4 x5 x6 (some (false, rowD R)) x8 x9 x10 x11 x12 x13 x14 x15) s = some (.nx (E16 x2 (some (false, ordD n ps)) x4 x5 x6 (some (false, rowD R)) (some (false, .int n)) (some (false, rowD r)) x10 x11 x12 x13 x14 x15) s') ∧ Lin n ps r ∧ s'.fz = s.fz := by
  obtain ⟨q, s1, e1, L1, f1⟩ := C.c19 n ps R s L
  obtain ⟨x, s2, e2, hx, f2⟩ := C.c13 (.lst [rowD R, rowD q]) [rowD R, rowD q] s1 rfl (by simp) (by simp)
  have key : ∃ r, x = rowD r ∧ Lin n ps r := by
    rcases List.mem_cons.mp hx with h | h
    · exact ⟨R, h, L⟩
    · exact ⟨q, List.mem_singleton.mp h, L1⟩
  obtain ⟨r, rfl, Lr⟩ := key
  have hb : bindT (.tp [.nm 8, .nm 9]) (.tup [.int n, rowD r]) (E16 x2 (some (false, ordD n ps)) x4 x5 x6 (some (false, rowD R)) x8 x9 x10 x11 x12 x13 x14 x15) = some (E16 x2 (some (false, ordD n ps)) x4 x5 x6 (some (false, rowD R)) (some (false, .int n)) (some (false, rowD r)) x10 x11 x12 x13 x14 x15) := bind_2 (fun d h => h8 d (by simpa using h)) (fun d h => h9 d (by simpa using h))
  refine ⟨r, s2, ?_, Lr, f2.trans f1⟩
  simp only [run_f, s_st, s_nil', k_nx, k_rt, k_bk, k_ct, m_asg, m_asgO, m_asgT, m_par, m_set, m_app, m_expr, m_ite, m_for, m_ret, m_sput, m_sfill, v_var, v_bor, v_int, v_bl, v_str, v_non, v_sget, v_not, v_and, v_or, v_ife, v_tup, v_lst, v_dnew, v_call, v_bi, v_comp, o_nil', o_bor, e_nil, e_star, t_nil', t_ex, c_turn, asB, asI, isSrc, outR, putsE, fr, szLine, List.length_cons, List.length_nil, List.map_cons, List.map_nil, List.cons_append, List.nil_append, List.append_nil, List.getElem?_cons_zero, List.getElem?_cons_succ, List.set_cons_zero, List.set_cons_succ, List.replicate_zero, List.replicate_succ, List.getD_cons_zero, Nat.reduceSub, Nat.reduceAdd, Option.bind_some, Option.bind_none, Option.map_some, if_true, if_false, Bool.and_true, Bool.true_and, Bool.not_true, Bool.not_false, Bool.or_true, Bool.true_or, Bool.false_or, Bool.or_false, Bool.and_false, Bool.false_and, Bool.and_self, Bool.or_self, Bool.false_eq_true, startE, reduceCtorEq, List.contains_nil, List.contains_cons, Nat.reduceBEq, ite_self, Nat.reduceLeDiff, Nat.reduceEqDiff, Int.reduceLE, Int.reduceLT, Int.reduceNeg, Int.reduceAdd, Int.reduceSub, ↓reduceIte, decide_true, decide_false, true_or, or_true, or_false, false_or, or_self, not_true_eq_false, not_false_eq_true, if_true, itemsL_, itemsT_, o_var_, e_var_, o_mv_, e_mv_, o_rel_, e_rel_, o_int_, e_int_, o_bl_, e_bl_, o_str_, e_str_, o_non_, e_non_, o_not_, e_not_, o_and_, e_and_, o_or_, e_or_, o_ife_, e_ife_, o_tup_, e_tup_, o_lst_, e_lst_, o_dnew_, e_dnew_, o_call_, e_call_, o_bi_, e_bi_, o_pop_, e_pop_, o_popAt_, e_popAt_, o_sget_, e_sget_, o_comp_, e_comp_, e_bor_, b_add_, b_addT_, b_addL_, b_sub_, b_mod_, b_fdiv_, b_cmp_, b_neg_, b_idxL_, b_idxT_, b_idxD_, b_slcTt_, b_slcTf_, b_slcLt_, b_slcLf_, b_revL_, b_lenL_, b_lenT_, b_abs_, b_toint_, b_totupL_, b_totupT_, b_tolstL_, b_tolstT_, b_repr_, b_lr1_, b_lr2_, b_lr3_, b_clt_, b_cle_, b_cgt_, b_cge_, b_ceq_, b_cne_, b_cin_, b_cni_, b_badbin_, b_badcmp_, b_wseqL_, b_wseqT_, b_wr1_, b_wr2_, b_wr3_, b_wenL_, b_wenT_, bad_neg_, bad_idx_, bad_rev_, bad_cnt_, bad_len_, bad_sum_, bad_max1_, bad_min1_, bad_max2_, bad_min2_, bad_abs_, bad_toint_, bad_totup_, bad_tolst_, bad_sorted_, bad_repr_, bad_mint_, bad_any_, bad_all_, bad_lrange1_, bad_lrange2_, bad_lrange3_, bad_slc_, bad_dict_, bad_ixL_, bad_ixT_, p20, p21, p10, p30, p31, p32, rd0_, rv0_, ro0_, rl0_, rd1_, rv1_, ro1_, rl1_, rd2_, rv2_, ro2_, rl2_, rd3_, rv3_, ro3_, rl3_, rd4_, rv4_, ro4_, rl4_, rd5_, rv5_, ro5_, rl5_, rd6_, rv6_, ro6_, rl6_, rd7_, rv7_, ro7_, rl7_, rd8_, rv8_, ro8_, rl8_, rd9_, rv9_, ro9_, rl9_, rd10_, rv10_, ro10_, rl10_, rd11_, rv11_, ro11_, rl11_, rd12_, rv12_, ro12_, rl12_, rd13_, rv13_, ro13_, rl13_, rd14_, rv14_, ro14_, rl14_, rd15_, rv15_, ro15_, rl15_, rd16_, rv16_, ro16_, rl16_, rd17_, rv17_, ro17_, rl17_, e1, e2, hb]
theorem w3_run {n : Int} {ps : List (Int × Int)} {r : List Int} (L : Lin n ps r) (hf : ps.length ≤ 10000) (s : Sr) : evS cf false F w3 (E16 x2 (some (false, ordD n ps)) x4 x5 x6 x7 x8 (some (false, rowD r)) x10 x11 x12 x13 x14 x15) s = some (.nx (E16 x2 (some (false, ordD n ps)) x4 x5 x6 x7 x8 (some (false, rowD r)) (some (false, .rep (.lst [ordD n ps, rowD r]))) (some (false, .lst [])) (some (false, .lst [])) x13 x14 x15) s) := by
  have hr := repr_ord L hf
  rw [b_repr_] at hr
  simp only [run_f, s_st, s_nil', k_nx, k_rt, k_bk, k_ct, m_asg, m_asgO, m_asgT, m_par, m_set, m_app, m_expr, m_ite, m_for, m_ret, m_sput, m_sfill, v_var, v_bor, v_int, v_bl, v_str, v_non, v_sget, v_not, v_and, v_or, v_ife, v_tup, v_lst, v_dnew, v_call, v_bi, v_comp, o_nil', o_bor, e_nil, e_star, t_nil', t_ex, c_turn, asB, asI, isSrc, outR, bindT, bindTs, putsE, fr, szLine, List.length_cons, List.length_nil, List.map_cons, List.map_nil, List.cons_append, List.nil_append, List.append_nil, List.getElem?_cons_zero, List.getElem?_cons_succ, List.set_cons_zero, List.set_cons_succ, List.replicate_zero, List.replicate_succ, List.getD_cons_zero, Nat.reduceSub, Nat.reduceAdd, Option.bind_some, Option.bind_none, Option.map_some, if_true, if_false, Bool.and_true, Bool.true_and, Bool.not_true, Bool.not_false, Bool.or_true, Bool.true_or, Bool.false_or, Bool.or_false, Bool.and_false, Bool.false_and, Bool.and_self, Bool.or_self, Bool.false_eq_true, startE, reduceCtorEq, List.contains_nil, List.contains_cons, Nat.reduceBEq, ite_self, Nat.reduceLeDiff, Nat.reduceEqDiff, Int.reduceLE, Int.reduceLT, Int.reduceNeg, Int.reduceAdd, Int.reduceSub, ↓reduceIte, decide_true, decide_false, true_or, or_true, or_false, false_or, or_self, not_true_eq_false, not_false_eq_true, if_true, itemsL_, itemsT_, o_var_, e_var_, o_mv_, e_mv_, o_rel_, e_rel_, o_int_, e_int_, o_bl_, e_bl_, o_str_, e_str_, o_non_, e_non_, o_not_, e_not_, o_and_, e_and_, o_or_, e_or_, o_ife_, e_ife_, o_tup_, e_tup_, o_lst_, e_lst_, o_dnew_, e_dnew_, o_call_, e_call_, o_bi_, e_bi_, o_pop_, e_pop_, o_popAt_, e_popAt_, o_sget_, e_sget_, o_comp_, e_comp_, e_bor_, b_add_, b_addT_, b_addL_, b_sub_, b_mod_, b_fdiv_, b_cmp_, b_neg_, b_idxL_, b_idxT_, b_idxD_, b_slcTt_, b_slcTf_, b_slcLt_, b_slcLf_, b_revL_, b_lenL_, b_lenT_, b_abs_, b_toint_, b_totupL_, b_totupT_, b_tolstL_, b_tolstT_, b_repr_, b_lr1_, b_lr2_, b_lr3_, b_clt_, b_cle_, b_cgt_, b_cge_, b_ceq_, b_cne_, b_cin_, b_cni_, b_badbin_, b_badcmp_, b_wseqL_, b_wseqT_, b_wr1_, b_wr2_, b_wr3_, b_wenL_, b_wenT_, bad_neg_, bad_idx_, bad_rev_, bad_cnt_, bad_len_, bad_sum_, bad_max1_, bad_min1_, bad_max2_, bad_min2_, bad_abs_, bad_toint_, bad_totup_, bad_tolst_, bad_sorted_, bad_repr_, bad_mint_, bad_any_, bad_all_, bad_lrange1_, bad_lrange2_, bad_lrange3_, bad_slc_, bad_dict_, bad_ixL_, bad_ixT_, p20, p21, p10, p30, p31, p32, rd0_, rv0_, ro0_, rl0_, rd1_, rv1_, ro1_, rl1_, rd2_, rv2_, ro2_, rl2_, rd3_, rv3_, ro3_, rl3_, rd4_, rv4_, ro4_, rl4_, rd5_, rv5_, ro5_, rl5_, rd6_, rv6_, ro6_, rl6_, rd7_, rv7_, ro7_, rl7_, rd8_, rv8_, ro8_, rl8_, rd9_, rv9_, ro9_, rl9_, rd10_, rv10_, ro10_, rl10_, rd11_, rv11_, ro11_, rl11_, rd12_, rv12_, ro12_, rl12_, rd13_, rv13_, ro13_, rl13_, rd14_, rv14_, ro14_, rl14_, rd15_, rv15_, ro15_, rl15_, rd16_, rv16_, ro16_, rl16_, rd17_, rv17_, ro17_, rl17_, hr]
theorem w4_turns (m : Nat) : ∀ (ks : List Nat) (acc : List D) (y : Option (Bool × D)) (s : Sr), (∀ k ∈ ks, k + 2 ≤ m) → ∃ y', turns (cTurn cf [15] (.nm 15) [] (.bi (.bin .sub) [.bi (.bin .sub) [.bor 8, .int 2], .bor 15])) (natsD ks) acc (E16 x2 x3 x4 x5 x6 x7 (some (false, .int (m : Int))) x9 x10 x11 x12 x13 x14 y) s = some (acc.reverse ++ natsD (ks.map fun i => m - 2 - i), (E16 x2 x3 x4 x5 x6 x7 (some (false, .int (m : Int))) x9 x10 x11 x12 x13 x14 y'), s)
  | [], acc, y, s, _ => ⟨y, by simp only [List.map_nil, List.append_nil]; rfl⟩
  | k :: ks, acc, y, s, h => by
    have hk := h k List.mem_cons_self
    have hc : cTurn cf [15] (.nm 15) [] (.bi (.bin .sub) [.bi (.bin .sub) [.bor 8, .int 2], .bor 15]) (.int (k : Int)) (E16 x2 x3 x4 x5 x6 x7 (some (false, .int (m : Int))) x9 x10 x11 x12 x13 x14 y) s = some (some (.int ((m - 2 - k : Nat) : Int)), (E16 x2 x3 x4 x5 x6 x7 (some (false, .int (m : Int))) x9 x10 x11 x12 x13 x14 (some (false, .int (k : Int)))), s) := by
      rw [c_turn]
      show (bindT (.nm 15) (.int (k : Int)) (E16 x2 x3 x4 x5 x6 x7 (some (false, .int (m : Int))) x9 x10 x11 x12 x13 x14 none)).bind _ = _
      rw [bind_nm (fun d h => by cases h)]
      have e : (m : Int) - 2 - (k : Int) = ((m - 2 - k : Nat) : Int) := by omega
      simp only [run_f, s_st, s_nil', k_nx, k_rt, k_bk, k_ct, m_asg, m_asgO, m_asgT, m_par, m_set, m_app, m_expr, m_ite, m_for, m_ret, m_sput, m_sfill, v_var, v_bor, v_int, v_bl, v_str, v_non, v_sget, v_not, v_and, v_or, v_ife, v_tup, v_lst, v_dnew, v_call, v_bi, v_comp, o_nil', o_bor, e_nil, e_star, t_nil', t_ex, c_turn, asB, asI, isSrc, outR, bindT, bindTs, putsE, fr, szLine, List.length_cons, List.length_nil, List.map_cons, List.map_nil, List.cons_append, List.nil_append, List.append_nil, List.getElem?_cons_zero, List.getElem?_cons_succ, List.set_cons_zero, List.set_cons_succ, List.replicate_zero, List.replicate_succ, List.getD_cons_zero, Nat.reduceSub, Nat.reduceAdd, Option.bind_some, Option.bind_none, Option.map_some, if_true, if_false, Bool.and_true, Bool.true_and, Bool.not_true, Bool.not_false, Bool.or_true, Bool.true_or, Bool.false_or, Bool.or_false, Bool.and_false, Bool.false_and, Bool.and_self, Bool.or_self, Bool.false_eq_true, startE, reduceCtorEq, List.contains_nil, List.contains_cons, Nat.reduceBEq, ite_self, Nat.reduceLeDiff, Nat.reduceEqDiff, Int.reduceLE, Int.reduceLT, Int.reduceNeg, Int.reduceAdd, Int.reduceSub, ↓reduceIte, decide_true, decide_false, true_or, or_true, or_false, false_or, or_self, not_true_eq_false, not_false_eq_true, if_true, itemsL_, itemsT_, o_var_, e_var_, o_mv_, e_mv_, o_rel_, e_rel_, o_int_, e_int_, o_bl_, e_bl_, o_str_, e_str_, o_non_, e_non_, o_not_, e_not_, o_and_, e_and_, o_or_, e_or_, o_ife_, e_ife_, o_tup_, e_tup_, o_lst_, e_lst_, o_dnew_, e_dnew_, o_call_, e_call_, o_bi_, e_bi_, o_pop_, e_pop_, o_popAt_, e_popAt_, o_sget_, e_sget_, o_comp_, e_comp_, e_bor_, b_add_, b_addT_, b_addL_, b_sub_, b_mod_, b_fdiv_, b_cmp_, b_neg_, b_idxL_, b_idxT_, b_idxD_, b_slcTt_, b_slcTf_, b_slcLt_, b_slcLf_, b_revL_, b_lenL_, b_lenT_, b_abs_, b_toint_, b_totupL_, b_totupT_, b_tolstL_, b_tolstT_, b_repr_, b_lr1_, b_lr2_, b_lr3_, b_clt_, b_cle_, b_cgt_, b_cge_, b_ceq_, b_cne_, b_cin_, b_cni_, b_badbin_, b_badcmp_, b_wseqL_, b_wseqT_, b_wr1_, b_wr2_, b_wr3_, b_wenL_, b_wenT_, bad_neg_, bad_idx_, bad_rev_, bad_cnt_, bad_len_, bad_sum_, bad_max1_, bad_min1_, bad_max2_, bad_min2_, bad_abs_, bad_toint_, bad_totup_, bad_tolst_, bad_sorted_, bad_repr_, bad_mint_, bad_any_, bad_all_, bad_lrange1_, bad_lrange2_, bad_lrange3_, bad_slc_, bad_dict_, bad_ixL_, bad_ixT_, p20, p21, p10, p30, p31, p32, rd0_, rv0_, ro0_, rl0_, rd1_, rv1_, ro1_, rl1_, rd2_, rv2_, ro2_, rl2_, rd3_, rv3_, ro3_, rl3_, rd4_, rv4_, ro4_, rl4_, rd5_, rv5_, ro5_, rl5_, rd6_, rv6_, ro6_, rl6_, rd7_, rv7_, ro7_, rl7_, rd8_, rv8_, ro8_, rl8_, rd9_, rv9_, ro9_, rl9_, rd10_, rv10_, ro10_, rl10_, rd11_, rv11_, ro11_, rl11_, rd12_, rv12_, ro12_, rl12_, rd13_, rv13_, ro13_, rl13_, rd14_, rv14_, ro14_, rl14_, rd15_, rv15_, ro15_, rl15_, rd16_, rv16_, ro16_, rl16_, rd17_, rv17_, ro17_, rl17_, e]
    obtain ⟨y', ih⟩ := w4_turns m ks (.int ((m - 2 - k : Nat) : Int) :: acc) (some (false, .int (k : Int))) s (fun j hj => h j (List.mem_cons_of_mem _ hj))
    refine ⟨y', (tn_yes hc).trans (ih.trans ?_)⟩
    rw [List.reverse_cons, List.append_assoc]; rfl
abbrev w4B : List Sm := [.asg 11 (.bi (.bin .add) [.bor 11, .bi .lrange1 [.bor 4]]), .asg 12 (.bi (.bin .add) [.bor 12, .comp [15] (.nm 15) .rng1 [.bor 4] [] (.bi (.bin .sub) [.bi (.bin .sub) [.bor 8, .int 2], .bor 15])])]
theorem w4_for (m : Nat) (hm : m ≤ 100) (h15 : nOw x15) (s : Sr) : ∀ (is u d : List Nat) (y4 : Option (Bool × D)), (∀ i ∈ is, i + 2 ≤ m) → u.length + 100 * is.length ≤ 20000 → d.length + 100 * is.length ≤ 20000 → nOw y4 →
    ∃ y4', forT (forB cf false F (.nm 4) w4B) (is.map fun (i : Nat) => D.int (1 + (i : Int))) (E16 x2 x3 y4 x5 x6 x7 (some (false, .int (m : Int))) x9 x10 (some (false, .lst (natsD u))) (some (false, .lst (natsD d))) x13 x14 x15) s = some (.nx (E16 x2 x3 y4' x5 x6 x7 (some (false, .int (m : Int))) x9 x10 (some (false, .lst (natsD (u ++ is.flatMap fun i => List.range (i + 1))))) (some (false, .lst (natsD (d ++ is.flatMap fun i => (List.range (i + 1)).map fun i => m - 2 - i)))) x13 x14 x15) s) ∧ nOw y4'
  | [], u, d, y4, _, _, _, hy => ⟨y4, by rw [List.flatMap_nil, List.flatMap_nil, List.append_nil, List.append_nil]; rfl, hy⟩
  | i :: is, u, d, y4, hi, hu, hd, hy => by
    have i1 := hi i List.mem_cons_self
    rw [List.length_cons] at hu hd
    obtain ⟨y4', ih, ny⟩ := w4_for m hm h15 s is (u ++ List.range (i + 1)) (d ++ (List.range (i + 1)).map fun i => m - 2 - i) (some (false, .int (1 + (i : Int)))) (fun j hj => hi j (List.mem_cons_of_mem _ hj)) (by rw [List.length_append, List.length_range]; omega) (by rw [List.length_append, List.length_map, List.length_range]; omega) (nOw_v _)
    refine ⟨y4', (f_step ?_).trans (ih.trans (by rw [List.flatMap_cons, List.flatMap_cons, List.append_assoc, List.append_assoc])), ny⟩
    unfold forB
    rw [bind_nm (fun d h => hy d (by simpa using h))]
    have e : (1 + (i : Int)) = ((i + 1 : Nat) : Int) := by omega
    have hr : rangeD 0 (1 + (i : Int)) 1 = some (natsD (List.range (i + 1))) := by rw [e]; exact range_up (by omega)
    obtain ⟨y15, t⟩ := w4_turns cf x2 x3 (some (false, .int (1 + (i : Int)))) x5 x6 x7 x9 x10 (some (false, .lst (natsD (u ++ List.range (i + 1))))) (some (false, .lst (natsD d))) x13 x14 m (List.range (i + 1)) [] x15 s (fun k hk => by rw [List.mem_range] at hk; omega)
    rw [List.reverse_nil, List.nil_append] at t
    have l1 : (natsD u).length + (natsD (List.range (i + 1))).length ≤ 16777216 := by rw [List.length_map, List.length_map, List.length_range]; omega
    have l2 : (natsD d).length + (natsD ((List.range (i + 1)).map fun i => m - 2 - i)).length ≤ 16777216 := by rw [List.length_map, List.length_map, List.length_map, List.length_range]; omega
    have a1 : natsD u ++ natsD (List.range (i + 1)) = natsD (u ++ List.range (i + 1)) := List.map_append.symm
    have a2 : natsD d ++ natsD ((List.range (i + 1)).map fun i => m - 2 - i) = natsD (d ++ (List.range (i + 1)).map fun i => m - 2 - i) := List.map_append.symm
    have no : ∀ a b c, noOwn [15] (E16 x2 x3 a x5 x6 x7 (some (false, .int (m : Int))) x9 x10 b c x13 x14 x15) = true := fun a b c => noOwn_1 fun d h => h15 d (by simpa using h)
    have bk : ∀ a b c y, backE [15] (E16 x2 x3 a x5 x6 x7 (some (false, .int (m : Int))) x9 x10 b c x13 x14 x15) (E16 x2 x3 a x5 x6 x7 (some (false, .int (m : Int))) x9 x10 b c x13 x14 y) = (E16 x2 x3 a x5 x6 x7 (some (false, .int (m : Int))) x9 x10 b c x13 x14 x15) := fun _ _ _ _ => rfl
    simp only [run_f, s_st, s_nil', k_nx, k_rt, k_bk, k_ct, m_asg, m_asgO, m_asgT, m_par, m_set, m_app, m_expr, m_ite, m_for, m_ret, m_sput, m_sfill, v_var, v_bor, v_int, v_bl, v_str, v_non, v_sget, v_not, v_and, v_or, v_ife, v_tup, v_lst, v_dnew, v_call, v_bi, v_comp, o_nil', o_bor, e_nil, e_star, t_nil', t_ex, c_turn, asB, asI, isSrc, outR, bindT, bindTs, putsE, fr, szLine, List.length_cons, List.length_nil, List.map_cons, List.map_nil, List.cons_append, List.nil_append, List.append_nil, List.getElem?_cons_zero, List.getElem?_cons_succ, List.set_cons_zero, List.set_cons_succ, List.replicate_zero, List.replicate_succ, List.getD_cons_zero, Nat.reduceSub, Nat.reduceAdd, Option.bind_some, Option.bind_none, Option.map_some, if_true, if_false, Bool.and_true, Bool.true_and, Bool.not_true, Bool.not_false, Bool.or_true, Bool.true_or, Bool.false_or, Bool.or_false, Bool.and_false, Bool.false_and, Bool.and_self, Bool.or_self, Bool.false_eq_true, startE, reduceCtorEq, List.contains_nil, List.contains_cons, Nat.reduceBEq, ite_self, Nat.reduceLeDiff, Nat.reduceEqDiff, Int.reduceLE, Int.reduceLT, Int.reduceNeg, Int.reduceAdd, Int.reduceSub, ↓reduceIte, decide_true, decide_false, true_or, or_true, or_false, false_or, or_self, not_true_eq_false, not_false_eq_true, if_true, itemsL_, itemsT_, o_var_, e_var_, o_mv_, e_mv_, o_rel_, e_rel_, o_int_, e_int_, o_bl_, e_bl_, o_str_, e_str_, o_non_, e_non_, o_not_, e_not_, o_and_, e_and_, o_or_, e_or_, o_ife_, e_ife_, o_tup_, e_tup_, o_lst_, e_lst_, o_dnew_, e_dnew_, o_call_, e_call_, o_bi_, e_bi_, o_pop_, e_pop_, o_popAt_, e_popAt_, o_sget_, e_sget_, o_comp_, e_comp_, e_bor_, b_add_, b_addT_, b_addL_, b_sub_, b_mod_, b_fdiv_, b_cmp_, b_neg_, b_idxL_, b_idxT_, b_idxD_, b_slcTt_, b_slcTf_, b_slcLt_, b_slcLf_, b_revL_, b_lenL_, b_lenT_, b_abs_, b_toint_, b_totupL_, b_totupT_, b_tolstL_, b_tolstT_, b_repr_, b_lr1_, b_lr2_, b_lr3_, b_clt_, b_cle_, b_cgt_, b_cge_, b_ceq_, b_cne_, b_cin_, b_cni_, b_badbin_, b_badcmp_, b_wseqL_, b_wseqT_, b_wr1_, b_wr2_, b_wr3_, b_wenL_, b_wenT_, bad_neg_, bad_idx_, bad_rev_, bad_cnt_, bad_len_, bad_sum_, bad_max1_, bad_min1_, bad_max2_, bad_min2_, bad_abs_, bad_toint_, bad_totup_, bad_tolst_, bad_sorted_, bad_repr_, bad_mint_, bad_any_, bad_all_, bad_lrange1_, bad_lrange2_, bad_lrange3_, bad_slc_, bad_dict_, bad_ixL_, bad_ixT_, p20, p21, p10, p30, p31, p32, rd0_, rv0_, ro0_, rl0_, rd1_, rv1_, ro1_, rl1_, rd2_, rv2_, ro2_, rl2_, rd3_, rv3_, ro3_, rl3_, rd4_, rv4_, ro4_, rl4_, rd5_, rv5_, ro5_, rl5_, rd6_, rv6_, ro6_, rl6_, rd7_, rv7_, ro7_, rl7_, rd8_, rv8_, ro8_, rl8_, rd9_, rv9_, ro9_, rl9_, rd10_, rv10_, ro10_, rl10_, rd11_, rv11_, ro11_, rl11_, rd12_, rv12_, ro12_, rl12_, rd13_, rv13_, ro13_, rl13_, rd14_, rv14_, ro14_, rl14_, rd15_, rv15_, ro15_, rl15_, rd16_, rv16_, ro16_, rl16_, rd17_, rv17_, ro17_, rl17_, hr, l1, a1, no, t, bk, l2, a2]
theorem w4_run {n : Int} (m : Nat) (hn : n = m) (h1 : 1 ≤ m) (hm : m ≤ 100) (h15 : nOw x15) (h4 : nOw x4) (s : Sr) : ∃ y4, evS cf false F w4 (E16 x2 x3 x4 x5 x6 x7 (some (false, .int n)) x9 x10 (some (false, .lst [])) (some (false, .lst [])) x13 x14 x15) s = some (.nx (E16 x2 x3 y4 x5 x6 x7 (some (false, .int n)) x9 x10 (some (false, .lst (natsD (upW m)))) (some (false, .lst (natsD (downW m)))) x13 x14 x15) s) ∧ nOw y4 := by
  subst hn
  obtain ⟨y4, e, ny⟩ := w4_for cf F x2 x3 x5 x6 x7 x9 x10 x13 x14 x15 m hm h15 s (List.range (m - 1)).reverse [] [] x4 (fun i hi => by rw [List.mem_reverse, List.mem_range] at hi; omega) (by rw [List.length_nil, List.length_reverse, List.length_range]; omega) (by rw [List.length_nil, List.length_reverse, List.length_range]; omega) h4
  have hd : (List.range (m - 1)).reverse.flatMap (fun i => (List.range (i + 1)).map fun i => m - 2 - i) = downW m := by
    unfold downW upW
    rw [List.map_flatMap]
  rw [List.nil_append, List.nil_append, hd] at e
  have e' : forT (forB cf false F (.nm 4) w4B) ((List.range (m - 1)).reverse.map fun (i : Nat) => D.int (1 + (i : Int))) (E16 x2 x3 x4 x5 x6 x7 (some (false, .int (m : Int))) x9 x10 (some (false, .lst [])) (some (false, .lst [])) x13 x14 x15) s = _ := e
  have hm1 : (m : Int) - 1 = 0 + ((m - 1 : Nat) : Int) := by omega
  have hr := range_dn (a := 0) (b := 1) (k := m - 1) rfl (by omega) (by decide)
  rw [← hm1] at hr
  refine ⟨y4, ?_, ny⟩
  simp only [run_f, s_st, s_nil', k_nx, k_rt, k_bk, k_ct, m_asg, m_asgO, m_asgT, m_par, m_set, m_app, m_expr, m_ite, m_for, m_ret, m_sput, m_sfill, v_var, v_bor, v_int, v_bl, v_str, v_non, v_sget, v_not, v_and, v_or, v_ife, v_tup, v_lst, v_dnew, v_call, v_bi, v_comp, o_nil', o_bor, e_nil, e_star, t_nil', t_ex, c_turn, asB, asI, isSrc, outR, bindT, bindTs, putsE, fr, szLine, List.length_cons, List.length_nil, List.map_cons, List.map_nil, List.cons_append, List.nil_append, List.append_nil, List.getElem?_cons_zero, List.getElem?_cons_succ, List.set_cons_zero, List.set_cons_succ, List.replicate_zero, List.replicate_succ, List.getD_cons_zero, Nat.reduceSub, Nat.reduceAdd, Option.bind_some, Option.bind_none, Option.map_some, if_true, if_false, Bool.and_true, Bool.true_and, Bool.not_true, Bool.not_false, Bool.or_true, Bool.true_or, Bool.false_or, Bool.or_false, Bool.and_false, Bool.false_and, Bool.and_self, Bool.or_self, Bool.false_eq_true, startE, reduceCtorEq, List.contains_nil, List.contains_cons, Nat.reduceBEq, ite_self, Nat.reduceLeDiff, Nat.reduceEqDiff, Int.reduceLE, Int.reduceLT, Int.reduceNeg, Int.reduceAdd, Int.reduceSub, ↓reduceIte, decide_true, decide_false, true_or, or_true, or_false, false_or, or_self, not_true_eq_false, not_false_eq_true, if_true, itemsL_, itemsT_, o_var_, e_var_, o_mv_, e_mv_, o_rel_, e_rel_, o_int_, e_int_, o_bl_, e_bl_, o_str_, e_str_, o_non_, e_non_, o_not_, e_not_, o_and_, e_and_, o_or_, e_or_, o_ife_, e_ife_, o_tup_, e_tup_, o_lst_, e_lst_, o_dnew_, e_dnew_, o_call_, e_call_, o_bi_, e_bi_, o_pop_, e_pop_, o_popAt_, e_popAt_, o_sget_, e_sget_, o_comp_, e_comp_, e_bor_, b_add_, b_addT_, b_addL_, b_sub_, b_mod_, b_fdiv_, b_cmp_, b_neg_, b_idxL_, b_idxT_, b_idxD_, b_slcTt_, b_slcTf_, b_slcLt_, b_slcLf_, b_revL_, b_lenL_, b_lenT_, b_abs_, b_toint_, b_totupL_, b_totupT_, b_tolstL_, b_tolstT_, b_repr_, b_lr1_, b_lr2_, b_lr3_, b_clt_, b_cle_, b_cgt_, b_cge_, b_ceq_, b_cne_, b_cin_, b_cni_, b_badbin_, b_badcmp_, b_wseqL_, b_wseqT_, b_wr1_, b_wr2_, b_wr3_, b_wenL_, b_wenT_, bad_neg_, bad_idx_, bad_rev_, bad_cnt_, bad_len_, bad_sum_, bad_max1_, bad_min1_, bad_max2_, bad_min2_, bad_abs_, bad_toint_, bad_totup_, bad_tolst_, bad_sorted_, bad_repr_, bad_mint_, bad_any_, bad_all_, bad_lrange1_, bad_lrange2_, bad_lrange3_, bad_slc_, bad_dict_, bad_ixL_, bad_ixT_, p20, p21, p10, p30, p31, p32, rd0_, rv0_, ro0_, rl0_, rd1_, rv1_, ro1_, rl1_, rd2_, rv2_, ro2_, rl2_, rd3_, rv3_, ro3_, rl3_, rd4_, rv4_, ro4_, rl4_, rd5_, rv5_, ro5_, rl5_, rd6_, rv6_, ro6_, rl6_, rd7_, rv7_, ro7_, rl7_, rd8_, rv8_, ro8_, rl8_, rd9_, rv9_, ro9_, rl9_, rd10_, rv10_, ro10_, rl10_, rd11_, rv11_, ro11_, rl11_, rd12_, rv12_, ro12_, rl12_, rd13_, rv13_, ro13_, rl13_, rd14_, rv14_, ro14_, rl14_, rd15_, rv15_, ro15_, rl15_, rd16_, rv16_, ro16_, rl16_, rd17_, rv17_, ro17_, rl17_, hr, e']
  rfl
theorem w5_run (C : CF cf) {n : Int} (m : Nat) (hn : n = m) (h1 : 1 ≤ m) (hm : m ≤ 100) (s : Sr) : evS cf false F w5 (E16 x2 x3 x4 x5 x6 x7 (some (false, .int n)) x9 x10 (some (false, .lst (natsD (upW m)))) (some (false, .lst (natsD (downW m)))) x13 x14 x15) s = some (.nx (E16 x2 x3 x4 x5 x6 x7 (some (false, .int n)) x9 x10 (some (false, .lst (natsD (upW m)))) (some (false, .lst (natsD (downW m)))) x13 x14 x15) s) := by
  subst hn
  have a1 := C.c7 m s h1 hm
  have a2 := C.c8 m s h1 hm
  have a3 := repr_words (upW m) (downW m) (upW_len hm) (downW_len hm) (fun i hi => by have := upW_ok hi; omega) (fun i hi => by have := downW_ok hi; omega)
  rw [b_repr_] at a3
  simp only [run_f, s_st, s_nil', k_nx, k_rt, k_bk, k_ct, m_asg, m_asgO, m_asgT, m_par, m_set, m_app, m_expr, m_ite, m_for, m_ret, m_sput, m_sfill, v_var, v_bor, v_int, v_bl, v_str, v_non, v_sget, v_not, v_and, v_or, v_ife, v_tup, v_lst, v_dnew, v_call, v_bi, v_comp, o_nil', o_bor, e_nil, e_star, t_nil', t_ex, c_turn, asB, asI, isSrc, outR, bindT, bindTs, putsE, fr, szLine, List.length_cons, List.length_nil, List.map_cons, List.map_nil, List.cons_append, List.nil_append, List.append_nil, List.getElem?_cons_zero, List.getElem?_cons_succ, List.set_cons_zero, List.set_cons_succ, List.replicate_zero, List.replicate_succ, List.getD_cons_zero, Nat.reduceSub, Nat.reduceAdd, Option.bind_some, Option.bind_none, Option.map_some, if_true, if_false, Bool.and_true, Bool.true_and, Bool.not_true, Bool.not_false, Bool.or_true, Bool.true_or, Bool.false_or, Bool.or_false, Bool.and_false, Bool.false_and, Bool.and_self, Bool.or_self, Bool.false_eq_true, startE, reduceCtorEq, List.contains_nil, List.contains_cons, Nat.reduceBEq, ite_self, Nat.reduceLeDiff, Nat.reduceEqDiff, Int.reduceLE, Int.reduceLT, Int.reduceNeg, Int.reduceAdd, Int.reduceSub, ↓reduceIte, decide_true, decide_false, true_or, or_true, or_false, false_or, or_self, not_true_eq_false, not_false_eq_true, if_true, itemsL_, itemsT_, o_var_, e_var_, o_mv_, e_mv_, o_rel_, e_rel_, o_int_, e_int_, o_bl_, e_bl_, o_str_, e_str_, o_non_, e_non_, o_not_, e_not_, o_and_, e_and_, o_or_, e_or_, o_ife_, e_ife_, o_tup_, e_tup_, o_lst_, e_lst_, o_dnew_, e_dnew_, o_call_, e_call_, o_bi_, e_bi_, o_pop_, e_pop_, o_popAt_, e_popAt_, o_sget_, e_sget_, o_comp_, e_comp_, e_bor_, b_add_, b_addT_, b_addL_, b_sub_, b_mod_, b_fdiv_, b_cmp_, b_neg_, b_idxL_, b_idxT_, b_idxD_, b_slcTt_, b_slcTf_, b_slcLt_, b_slcLf_, b_revL_, b_lenL_, b_lenT_, b_abs_, b_toint_, b_totupL_, b_totupT_, b_tolstL_, b_tolstT_, b_repr_, b_lr1_, b_lr2_, b_lr3_, b_clt_, b_cle_, b_cgt_, b_cge_, b_ceq_, b_cne_, b_cin_, b_cni_, b_badbin_, b_badcmp_, b_wseqL_, b_wseqT_, b_wr1_, b_wr2_, b_wr3_, b_wenL_, b_wenT_, bad_neg_, bad_idx_, bad_rev_, bad_cnt_, bad_len_, bad_sum_, bad_max1_, bad_min1_, bad_max2_, bad_min2_, bad_abs_, bad_toint_, bad_totup_, bad_tolst_, bad_sorted_, bad_repr_, bad_mint_, bad_any_, bad_all_, bad_lrange1_, bad_lrange2_, bad_lrange3_, bad_slc_, bad_dict_, bad_ixL_, bad_ixT_, p20, p21, p10, p30, p31, p32, rd0_, rv0_, ro0_, rl0_, rd1_, rv1_, ro1_, rl1_, rd2_, rv2_, ro2_, rl2_, rd3_, rv3_, ro3_, rl3_, rd4_, rv4_, ro4_, rl4_, rd5_, rv5_, ro5_, rl5_, rd6_, rv6_, ro6_, rl6_, rd7_, rv7_, ro7_, rl7_, rd8_, rv8_, ro8_, rl8_, rd9_, rv9_, ro9_, rl9_, rd10_, rv10_, ro10_, rl10_, rd11_, rv11_, ro11_, rl11_, rd12_, rv12_, ro12_, rl12_, rd13_, rv13_, ro13_, rl13_, rd14_, rv14_, ro14_, rl14_, rd15_, rv15_, ro15_, rl15_, rd16_, rv16_, ro16_, rl16_, rd17_, rv17_, ro17_, rl17_, a1, a2, a3, eqD_rep]
theorem w6_run (C : CF cf) {n : Int} {ps : List (Int × Int)} {r : List Int} (L : Lin n ps r) (s : Sr) : evS cf false F w6 (E16 x2 (some (false, ordD n ps)) x4 x5 x6 x7 x8 (some (false, rowD r)) x10 x11 x12 x13 x14 x15) s = some (.nx (E16 x2 (some (false, ordD n ps)) x4 x5 x6 x7 x8 (some (false, rowD r)) x10 x11 x12 (some (false, rowD (alongR ps r (upW r.length)))) (some (false, rowD (alongR ps r (downW r.length)))) x15) s) := by
  have a1 := C.c9 n ps r s L.len L.pos L.small
  have a2 := C.c10 n ps r s L.len L.pos L.small
  simp only [run_f, s_st, s_nil', k_nx, k_rt, k_bk, k_ct, m_asg, m_asgO, m_asgT, m_par, m_set, m_app, m_expr, m_ite, m_for, m_ret, m_sput, m_sfill, v_var, v_bor, v_int, v_bl, v_str, v_non, v_sget, v_not, v_and, v_or, v_ife, v_tup, v_lst, v_dnew, v_call, v_bi, v_comp, o_nil', o_bor, e_nil, e_star, t_nil', t_ex, c_turn, asB, asI, isSrc, outR, bindT, bindTs, putsE, fr, szLine, List.length_cons, List.length_nil, List.map_cons, List.map_nil, List.cons_append, List.nil_append, List.append_nil, List.getElem?_cons_zero, List.getElem?_cons_succ, List.set_cons_zero, List.set_cons_succ, List.replicate_zero, List.replicate_succ, List.getD_cons_zero, Nat.reduceSub, Nat.reduceAdd, Option.bind_some, Option.bind_none, Option.map_some, if_true, if_false, Bool.and_true, Bool.true_and, Bool.not_true, Bool.not_false, Bool.or_true, Bool.true_or, Bool.false_or, Bool.or_false, Bool.and_false, Bool.false_and, Bool.and_self, Bool.or_self, Bool.false_eq_true, startE, reduceCtorEq, List.contains_nil, List.contains_cons, Nat.reduceBEq, ite_self, Nat.reduceLeDiff, Nat.reduceEqDiff, Int.reduceLE, Int.reduceLT, Int.reduceNeg, Int.reduceAdd, Int.reduceSub, ↓reduceIte, decide_true, decide_false, true_or, or_true, or_false, false_or, or_self, not_true_eq_false, not_false_eq_true, if_true, itemsL_, itemsT_, o_var_, e_var_, o_mv_, e_mv_, o_rel_, e_rel_, o_int_, e_int_, o_bl_, e_bl_, o_str_, e_str_, o_non_, e_non_, o_not_, e_not_, o_and_, e_and_, o_or_, e_or_, o_ife_, e_ife_, o_tup_, e_tup_, o_lst_, e_lst_, o_dnew_, e_dnew_, o_call_, e_call_, o_bi_, e_bi_, o_pop_, e_pop_, o_popAt_, e_popAt_, o_sget_, e_sget_, o_comp_, e_comp_, e_bor_, b_add_, b_addT_, b_addL_, b_sub_, b_mod_, b_fdiv_, b_cmp_, b_neg_, b_idxL_, b_idxT_, b_idxD_, b_slcTt_, b_slcTf_, b_slcLt_, b_slcLf_, b_revL_, b_lenL_, b_lenT_, b_abs_, b_toint_, b_totupL_, b_totupT_, b_tolstL_, b_tolstT_, b_repr_, b_lr1_, b_lr2_, b_lr3_, b_clt_, b_cle_, b_cgt_, b_cge_, b_ceq_, b_cne_, b_cin_, b_cni_, b_badbin_, b_badcmp_, b_wseqL_, b_wseqT_, b_wr1_, b_wr2_, b_wr3_, b_wenL_, b_wenT_, bad_neg_, bad_idx_, bad_rev_, bad_cnt_, bad_len_, bad_sum_, bad_max1_, bad_min1_, bad_max2_, bad_min2_, bad_abs_, bad_toint_, bad_totup_, bad_tolst_, bad_sorted_, bad_repr_, bad_mint_, bad_any_, bad_all_, bad_lrange1_, bad_lrange2_, bad_lrange3_, bad_slc_, bad_dict_, bad_ixL_, bad_ixT_, p20, p21, p10, p30, p31, p32, rd0_, rv0_, ro0_, rl0_, rd1_, rv1_, ro1_, rl1_, rd2_, rv2_, ro2_, rl2_, rd3_, rv3_, ro3_, rl3_, rd4_, rv4_, ro4_, rl4_, rd5_, rv5_, ro5_, rl5_, rd6_, rv6_, ro6_, rl6_, rd7_, rv7_, ro7_, rl7_, rd8_, rv8_, ro8_, rl8_, rd9_, rv9_, ro9_, rl9_, rd10_, rv10_, ro10_, rl10_, rd11_, rv11_, ro11_, rl11_, rd12_, rv12_, ro12_, rl12_, rd13_, rv13_, ro13_, rl13_, rd14_, rv14_, ro14_, rl14_, rd15_, rv15_, ro15_, rl15_, rd16_, rv16_, ro16_, rl16_, rd17_, rv17_, ro17_, rl17_, a1, a2]
theorem upL {n : Int} {ps : List (Int × Int)} {r : List Int} (L : Lin n ps r) : Lin n ps (alongR ps r (upW r.length)) := (lalong_eq _ L (fun k hk => upW_ok hk)).2
theorem downL {n : Int} {ps : List (Int × Int)} {r : List Int} (L : Lin n ps r) : Lin n ps (alongR ps r (downW r.length)) := (lalong_eq _ L (fun k hk => downW_ok hk)).2
theorem up_len (ps : List (Int × Int)) (r : List Int) : (alongR ps r (upW r.length)).length = r.length := alongR_length ps _ r fun k hk => upW_ok hk
theorem down_len (ps : List (Int × Int)) (r : List Int) : (alongR ps r (downW r.length)).length = r.length := alongR_length ps _ r fun k hk => downW_ok hk
theorem w7_run (C : CF cf) {n : Int} {ps : List (Int × Int)} {r : List Int} (L : Lin n ps r) (s : Sr) (hs : s.fz = true) : evS cf false F w7 (E16 x2 (some (false, ordD n ps)) x4 x5 x6 x7 x8 (some (false, rowD r)) x10 x11 (some (false, .lst (natsD (downW r.length)))) (some (false, rowD (alongR ps r (upW r.length)))) (some (false, rowD (alongR ps r (downW r.length)))) x15) s = some (.nx (E16 x2 (some (false, ordD n ps)) x4 x5 x6 x7 x8 (some (false, rowD r)) x10 x11 (some (false, .lst (natsD (downW r.length)))) (some (false, rowD (alongR ps r (upW r.length)))) (some (false, rowD (alongR ps r (downW r.length)))) x15) s) := by
  have a1 := C.c20 n ps r s L
  have a2 := C.c18 n ps r (.lst (natsD (downW r.length))) (downW r.length) s L rfl (fun k hk => downW_ok hk) hs
  have a3 := repr_rows (downL L) (alongR ps r (upW r.length)) (upL L).small (upL L).sm
  rw [b_repr_] at a3
  simp only [run_f, s_st, s_nil', k_nx, k_rt, k_bk, k_ct, m_asg, m_asgO, m_asgT, m_par, m_set, m_app, m_expr, m_ite, m_for, m_ret, m_sput, m_sfill, v_var, v_bor, v_int, v_bl, v_str, v_non, v_sget, v_not, v_and, v_or, v_ife, v_tup, v_lst, v_dnew, v_call, v_bi, v_comp, o_nil', o_bor, e_nil, e_star, t_nil', t_ex, c_turn, asB, asI, isSrc, outR, bindT, bindTs, putsE, fr, szLine, List.length_cons, List.length_nil, List.map_cons, List.map_nil, List.cons_append, List.nil_append, List.append_nil, List.getElem?_cons_zero, List.getElem?_cons_succ, List.set_cons_zero, List.set_cons_succ, List.replicate_zero, List.replicate_succ, List.getD_cons_zero, Nat.reduceSub, Nat.reduceAdd, Option.bind_some, Option.bind_none, Option.map_some, if_true, if_false, Bool.and_true, Bool.true_and, Bool.not_true, Bool.not_false, Bool.or_true, Bool.true_or, Bool.false_or, Bool.or_false, Bool.and_false, Bool.false_and, Bool.and_self, Bool.or_self, Bool.false_eq_true, startE, reduceCtorEq, List.contains_nil, List.contains_cons, Nat.reduceBEq, ite_self, Nat.reduceLeDiff, Nat.reduceEqDiff, Int.reduceLE, Int.reduceLT, Int.reduceNeg, Int.reduceAdd, Int.reduceSub, ↓reduceIte, decide_true, decide_false, true_or, or_true, or_false, false_or, or_self, not_true_eq_false, not_false_eq_true, if_true, itemsL_, itemsT_, o_var_, e_var_, o_mv_, e_mv_, o_rel_, e_rel_, o_int_, e_int_, o_bl_, e_bl_, o_str_, e_str_, o_non_, e_non_, o_not_, e_not_, o_and_, e_and_, o_or_, e_or_, o_ife_, e_ife_, o_tup_, e_tup_, o_lst_, e_lst_, o_dnew_, e_dnew_, o_call_, e_call_, o_bi_, e_bi_, o_pop_, e_pop_, o_popAt_, e_popAt_, o_sget_, e_sget_, o_comp_, e_comp_, e_bor_, b_add_, b_addT_, b_addL_, b_sub_, b_mod_, b_fdiv_, b_cmp_, b_neg_, b_idxL_, b_idxT_, b_idxD_, b_slcTt_, b_slcTf_, b_slcLt_, b_slcLf_, b_revL_, b_lenL_, b_lenT_, b_abs_, b_toint_, b_totupL_, b_totupT_, b_tolstL_, b_tolstT_, b_repr_, b_lr1_, b_lr2_, b_lr3_, b_clt_, b_cle_, b_cgt_, b_cge_, b_ceq_, b_cne_, b_cin_, b_cni_, b_badbin_, b_badcmp_, b_wseqL_, b_wseqT_, b_wr1_, b_wr2_, b_wr3_, b_wenL_, b_wenT_, bad_neg_, bad_idx_, bad_rev_, bad_cnt_, bad_len_, bad_sum_, bad_max1_, bad_min1_, bad_max2_, bad_min2_, bad_abs_, bad_toint_, bad_totup_, bad_tolst_, bad_sorted_, bad_repr_, bad_mint_, bad_any_, bad_all_, bad_lrange1_, bad_lrange2_, bad_lrange3_, bad_slc_, bad_dict_, bad_ixL_, bad_ixT_, p20, p21, p10, p30, p31, p32, rd0_, rv0_, ro0_, rl0_, rd1_, rv1_, ro1_, rl1_, rd2_, rv2_, ro2_, rl2_, rd3_, rv3_, ro3_, rl3_, rd4_, rv4_, ro4_, rl4_, rd5_, rv5_, ro5_, rl5_, rd6_, rv6_, ro6_, rl6_, rd7_, rv7_, ro7_, rl7_, rd8_, rv8_, ro8_, rl8_, rd9_, rv9_, ro9_, rl9_, rd10_, rv10_, ro10_, rl10_, rd11_, rv11_, ro11_, rl11_, rd12_, rv12_, ro12_, rl12_, rd13_, rv13_, ro13_, rl13_, rd14_, rv14_, ro14_, rl14_, rd15_, rv15_, ro15_, rl15_, rd16_, rv16_, ro16_, rl16_, rd17_, rv17_, ro17_, rl17_, a1, a2, a3, eqD_rep]
theorem w8_run (C : CF cf) {n : Int} {ps : List (Int × Int)} {r : List Int} (L : Lin n ps r) (h10 : r.length ≤ 10) (s : Sr) (hs : s.fz = true) : evS cf false F w8 (E16 x2 (some (false, ordD n ps)) x4 x5 x6 x7 x8 (some (false, rowD r)) x10 (some (false, .lst (natsD (upW r.length)))) x12 (some (false, rowD (alongR ps r (upW r.length)))) x14 x15) s = some (.nx (E16 x2 (some (false, ordD n ps)) x4 x5 x6 x7 x8 (some (false, rowD r)) x10 (some (false, .lst (natsD (upW r.length)))) x12 (some (false, rowD (alongR ps r (upW r.length)))) x14 x15) s) := by
  have a2 := C.c18 n ps r (.lst (natsD (upW r.length))) (upW r.length) s L rfl (fun k hk => upW_ok hk) hs
  have a1 := C.c9 n ps (alongR ps r (upW r.length)) s (upL L).len (upL L).pos (upL L).small
  rw [up_len, (ev_facts L h10).1] at a1
  simp only [run_f, s_st, s_nil', k_nx, k_rt, k_bk, k_ct, m_asg, m_asgO, m_asgT, m_par, m_set, m_app, m_expr, m_ite, m_for, m_ret, m_sput, m_sfill, v_var, v_bor, v_int, v_bl, v_str, v_non, v_sget, v_not, v_and, v_or, v_ife, v_tup, v_lst, v_dnew, v_call, v_bi, v_comp, o_nil', o_bor, e_nil, e_star, t_nil', t_ex, c_turn, asB, asI, isSrc, outR, bindT, bindTs, putsE, fr, szLine, List.length_cons, List.length_nil, List.map_cons, List.map_nil, List.cons_append, List.nil_append, List.append_nil, List.getElem?_cons_zero, List.getElem?_cons_succ, List.set_cons_zero, List.set_cons_succ, List.replicate_zero, List.replicate_succ, List.getD_cons_zero, Nat.reduceSub, Nat.reduceAdd, Option.bind_some, Option.bind_none, Option.map_some, if_true, if_false, Bool.and_true, Bool.true_and, Bool.not_true, Bool.not_false, Bool.or_true, Bool.true_or, Bool.false_or, Bool.or_false, Bool.and_false, Bool.false_and, Bool.and_self, Bool.or_self, Bool.false_eq_true, startE, reduceCtorEq, List.contains_nil, List.contains_cons, Nat.reduceBEq, ite_self, Nat.reduceLeDiff, Nat.reduceEqDiff, Int.reduceLE, Int.reduceLT, Int.reduceNeg, Int.reduceAdd, Int.reduceSub, ↓reduceIte, decide_true, decide_false, true_or, or_true, or_false, false_or, or_self, not_true_eq_false, not_false_eq_true, if_true, itemsL_, itemsT_, o_var_, e_var_, o_mv_, e_mv_, o_rel_, e_rel_, o_int_, e_int_, o_bl_, e_bl_, o_str_, e_str_, o_non_, e_non_, o_not_, e_not_, o_and_, e_and_, o_or_, e_or_, o_ife_, e_ife_, o_tup_, e_tup_, o_lst_, e_lst_, o_dnew_, e_dnew_, o_call_, e_call_, o_bi_, e_bi_, o_pop_, e_pop_, o_popAt_, e_popAt_, o_sget_, e_sget_, o_comp_, e_comp_, e_bor_, b_add_, b_addT_, b_addL_, b_sub_, b_mod_, b_fdiv_, b_cmp_, b_neg_, b_idxL_, b_idxT_, b_idxD_, b_slcTt_, b_slcTf_, b_slcLt_, b_slcLf_, b_revL_, b_lenL_, b_lenT_, b_abs_, b_toint_, b_totupL_, b_totupT_, b_tolstL_, b_tolstT_, b_repr_, b_lr1_, b_lr2_, b_lr3_, b_clt_, b_cle_, b_cgt_, b_cge_, b_ceq_, b_cne_, b_cin_, b_cni_, b_badbin_, b_badcmp_, b_wseqL_, b_wseqT_, b_wr1_, b_wr2_, b_wr3_, b_wenL_, b_wenT_, bad_neg_, bad_idx_, bad_rev_, bad_cnt_, bad_len_, bad_sum_, bad_max1_, bad_min1_, bad_max2_, bad_min2_, bad_abs_, bad_toint_, bad_totup_, bad_tolst_, bad_sorted_, bad_repr_, bad_mint_, bad_any_, bad_all_, bad_lrange1_, bad_lrange2_, bad_lrange3_, bad_slc_, bad_dict_, bad_ixL_, bad_ixT_, p20, p21, p10, p30, p31, p32, rd0_, rv0_, ro0_, rl0_, rd1_, rv1_, ro1_, rl1_, rd2_, rv2_, ro2_, rl2_, rd3_, rv3_, ro3_, rl3_, rd4_, rv4_, ro4_, rl4_, rd5_, rv5_, ro5_, rl5_, rd6_, rv6_, ro6_, rl6_, rd7_, rv7_, ro7_, rl7_, rd8_, rv8_, ro8_, rl8_, rd9_, rv9_, ro9_, rl9_, rd10_, rv10_, ro10_, rl10_, rd11_, rv11_, ro11_, rl11_, rd12_, rv12_, ro12_, rl12_, rd13_, rv13_, ro13_, rl13_, rd14_, rv14_, ro14_, rl14_, rd15_, rv15_, ro15_, rl15_, rd16_, rv16_, ro16_, rl16_, rd17_, rv17_, ro17_, rl17_, a1, a2, eqD_row]
theorem w9_run (C : CF cf) {n : Int} {ps : List (Int × Int)} {r : List Int} (L : Lin n ps r) (h10 : r.length ≤ 10) (s : Sr) : evS cf false F w9 (E16 x2 (some (false, ordD n ps)) x4 x5 x6 x7 x8 (some (false, rowD r)) x10 x11 x12 x13 (some (false, rowD (alongR ps r (downW r.length)))) x15) s = some (.nx (E16 x2 (some (false, ordD n ps)) x4 x5 x6 x7 x8 (some (false, rowD r)) x10 x11 x12 x13 (some (false, rowD (alongR ps r (downW r.length)))) x15) s) := by
  have a1 := C.c10 n ps (alongR ps r (downW r.length)) s (downL L).len (downL L).pos (downL L).small
  rw [down_len, (ev_facts L h10).2.1] at a1
  simp only [run_f, s_st, s_nil', k_nx, k_rt, k_bk, k_ct, m_asg, m_asgO, m_asgT, m_par, m_set, m_app, m_expr, m_ite, m_for, m_ret, m_sput, m_sfill, v_var, v_bor, v_int, v_bl, v_str, v_non, v_sget, v_not, v_and, v_or, v_ife, v_tup, v_lst, v_dnew, v_call, v_bi, v_comp, o_nil', o_bor, e_nil, e_star, t_nil', t_ex, c_turn, asB, asI, isSrc, outR, bindT, bindTs, putsE, fr, szLine, List.length_cons, List.length_nil, List.map_cons, List.map_nil, List.cons_append, List.nil_append, List.append_nil, List.getElem?_cons_zero, List.getElem?_cons_succ, List.set_cons_zero, List.set_cons_succ, List.replicate_zero, List.replicate_succ, List.getD_cons_zero, Nat.reduceSub, Nat.reduceAdd, Option.bind_some, Option.bind_none, Option.map_some, if_true, if_false, Bool.and_true, Bool.true_and, Bool.not_true, Bool.not_false, Bool.or_true, Bool.true_or, Bool.false_or, Bool.or_false, Bool.and_false, Bool.false_and, Bool.and_self, Bool.or_self, Bool.false_eq_true, startE, reduceCtorEq, List.contains_nil, List.contains_cons, Nat.reduceBEq, ite_self, Nat.reduceLeDiff, Nat.reduceEqDiff, Int.reduceLE, Int.reduceLT, Int.reduceNeg, Int.reduceAdd, Int.reduceSub, ↓reduceIte, decide_true, decide_false, true_or, or_true, or_false, false_or, or_self, not_true_eq_false, not_false_eq_true, if_true, itemsL_, itemsT_, o_var_, e_var_, o_mv_, e_mv_, o_rel_, e_rel_, o_int_, e_int_, o_bl_, e_bl_, o_str_, e_str_, o_non_, e_non_, o_not_, e_not_, o_and_, e_and_, o_or_, e_or_, o_ife_, e_ife_, o_tup_, e_tup_, o_lst_, e_lst_, o_dnew_, e_dnew_, o_call_, e_call_, o_bi_, e_bi_, o_pop_, e_pop_, o_popAt_, e_popAt_, o_sget_, e_sget_, o_comp_, e_comp_, e_bor_, b_add_, b_addT_, b_addL_, b_sub_, b_mod_, b_fdiv_, b_cmp_, b_neg_, b_idxL_, b_idxT_, b_idxD_, b_slcTt_, b_slcTf_, b_slcLt_, b_slcLf_, b_revL_, b_lenL_, b_lenT_, b_abs_, b_toint_, b_totupL_, b_totupT_, b_tolstL_, b_tolstT_, b_repr_, b_lr1_, b_lr2_, b_lr3_, b_clt_, b_cle_, b_cgt_, b_cge_, b_ceq_, b_cne_, b_cin_, b_cni_, b_badbin_, b_badcmp_, b_wseqL_, b_wseqT_, b_wr1_, b_wr2_, b_wr3_, b_wenL_, b_wenT_, bad_neg_, bad_idx_, bad_rev_, bad_cnt_, bad_len_, bad_sum_, bad_max1_, bad_min1_, bad_max2_, bad_min2_, bad_abs_, bad_toint_, bad_totup_, bad_tolst_, bad_sorted_, bad_repr_, bad_mint_, bad_any_, bad_all_, bad_lrange1_, bad_lrange2_, bad_lrange3_, bad_slc_, bad_dict_, bad_ixL_, bad_ixT_, p20, p21, p10, p30, p31, p32, rd0_, rv0_, ro0_, rl0_, rd1_, rv1_, ro1_, rl1_, rd2_, rv2_, ro2_, rl2_, rd3_, rv3_, ro3_, rl3_, rd4_, rv4_, ro4_, rl4_, rd5_, rv5_, ro5_, rl5_, rd6_, rv6_, ro6_, rl6_, rd7_, rv7_, ro7_, rl7_, rd8_, rv8_, ro8_, rl8_, rd9_, rv9_, ro9_, rl9_, rd10_, rv10_, ro10_, rl10_, rd11_, rv11_, ro11_, rl11_, rd12_, rv12_, ro12_, rl12_, rd13_, rv13_, ro13_, rl13_, rd14_, rv14_, ro14_, rl14_, rd15_, rv15_, ro15_, rl15_, rd16_, rv16_, ro16_, rl16_, rd17_, rv17_, ro17_, rl17_, a1, eqD_row]
theorem w10_run (C : CF cf) {n : Int} {ps : List (Int × Int)} {r : List Int} (L : Lin n ps r) (s : Sr) : evS cf false F w10 (E16 x2 (some (false, ordD n ps)) x4 x5 x6 x7 x8 (some (false, rowD r)) x10 x11 x12 x13 x14 x15) s = some (.nx (E16 x2 (some (false, ordD n ps)) x4 (some (false, rowD (demR ps r))) x6 x7 x8 (some (false, rowD r)) x10 x11 x12 x13 x14 x15) s) := by
  have a1 := C.c5 n ps r s L.len L.pos L.small
  simp only [run_f, s_st, s_nil', k_nx, k_rt, k_bk, k_ct, m_asg, m_asgO, m_asgT, m_par, m_set, m_app, m_expr, m_ite, m_for, m_ret, m_sput, m_sfill, v_var, v_bor, v_int, v_bl, v_str, v_non, v_sget, v_not, v_and, v_or, v_ife, v_tup, v_lst, v_dnew, v_call, v_bi, v_comp, o_nil', o_bor, e_nil, e_star, t_nil', t_ex, c_turn, asB, asI, isSrc, outR, bindT, bindTs, putsE, fr, szLine, List.length_cons, List.length_nil, List.map_cons, List.map_nil, List.cons_append, List.nil_append, List.append_nil, List.getElem?_cons_zero, List.getElem?_cons_succ, List.set_cons_zero, List.set_cons_succ, List.replicate_zero, List.replicate_succ, List.getD_cons_zero, Nat.reduceSub, Nat.reduceAdd, Option.bind_some, Option.bind_none, Option.map_some, if_true, if_false, Bool.and_true, Bool.true_and, Bool.not_true, Bool.not_false, Bool.or_true, Bool.true_or, Bool.false_or, Bool.or_false, Bool.and_false, Bool.false_and, Bool.and_self, Bool.or_self, Bool.false_eq_true, startE, reduceCtorEq, List.contains_nil, List.contains_cons, Nat.reduceBEq, ite_self, Nat.reduceLeDiff, Nat.reduceEqDiff, Int.reduceLE, Int.reduceLT, Int.reduceNeg, Int.reduceAdd, Int.reduceSub, ↓reduceIte, decide_true, decide_false, true_or, or_true, or_false, false_or, or_self, not_true_eq_false, not_false_eq_true, if_true, itemsL_, itemsT_, o_var_, e_var_, o_mv_, e_mv_, o_rel_, e_rel_, o_int_, e_int_, o_bl_, e_bl_, o_str_, e_str_, o_non_, e_non_, o_not_, e_not_, o_and_, e_and_, o_or_, e_or_, o_ife_, e_ife_, o_tup_, e_tup_, o_lst_, e_lst_, o_dnew_, e_dnew_, o_call_, e_call_, o_bi_, e_bi_, o_pop_, e_pop_, o_popAt_, e_popAt_, o_sget_, e_sget_, o_comp_, e_comp_, e_bor_, b_add_, b_addT_, b_addL_, b_sub_, b_mod_, b_fdiv_, b_cmp_, b_neg_, b_idxL_, b_idxT_, b_idxD_, b_slcTt_, b_slcTf_, b_slcLt_, b_slcLf_, b_revL_, b_lenL_, b_lenT_, b_abs_, b_toint_, b_totupL_, b_totupT_, b_tolstL_, b_tolstT_, b_repr_, b_lr1_, b_lr2_, b_lr3_, b_clt_, b_cle_, b_cgt_, b_cge_, b_ceq_, b_cne_, b_cin_, b_cni_, b_badbin_, b_badcmp_, b_wseqL_, b_wseqT_, b_wr1_, b_wr2_, b_wr3_, b_wenL_, b_wenT_, bad_neg_, bad_idx_, bad_rev_, bad_cnt_, bad_len_, bad_sum_, bad_max1_, bad_min1_, bad_max2_, bad_min2_, bad_abs_, bad_toint_, bad_totup_, bad_tolst_, bad_sorted_, bad_repr_, bad_mint_, bad_any_, bad_all_, bad_lrange1_, bad_lrange2_, bad_lrange3_, bad_slc_, bad_dict_, bad_ixL_, bad_ixT_, p20, p21, p10, p30, p31, p32, rd0_, rv0_, ro0_, rl0_, rd1_, rv1_, ro1_, rl1_, rd2_, rv2_, ro2_, rl2_, rd3_, rv3_, ro3_, rl3_, rd4_, rv4_, ro4_, rl4_, rd5_, rv5_, ro5_, rl5_, rd6_, rv6_, ro6_, rl6_, rd7_, rv7_, ro7_, rl7_, rd8_, rv8_, ro8_, rl8_, rd9_, rv9_, ro9_, rl9_, rd10_, rv10_, ro10_, rl10_, rd11_, rv11_, ro11_, rl11_, rd12_, rv12_, ro12_, rl12_, rd13_, rv13_, ro13_, rl13_, rd14_, rv14_, ro14_, rl14_, rd15_, rv15_, ro15_, rl15_, rd16_, rv16_, ro16_, rl16_, rd17_, rv17_, ro17_, rl17_, a1]
theorem w11_run (C : CF cf) {n : Int} {ps : List (Int × Int)} {r : List Int} (L : Lin n ps r) (h10 : r.length ≤ 10) (s : Sr) : evS cf false F w11 (E16 x2 (some (false, ordD n ps)) x4 (some (false, rowD (demR ps r))) x6 x7 x8 x9 x10 x11 x12 (some (false, rowD (alongR ps r (upW r.length)))) (some (false, rowD (alongR ps r (downW r.length)))) x15) s = some (.nx (E16 x2 (some (false, ordD n ps)) x4 (some (false, rowD (demR ps r))) x6 x7 x8 x9 x10 x11 x12 (some (false, rowD (alongR ps r (upW r.length)))) (some (false, rowD (alongR ps r (downW r.length)))) x15) s) := by
  have Lu := upL L
  have Ld := downL L
  have a1 := C.c4 n ps (alongR ps r (upW r.length)) s Lu.pos Lu.small
  have a2 := C.c4 n ps (alongR ps r (downW r.length)) s Ld.pos Ld.small
  have a3 := C.c9 n ps (promR ps (alongR ps r (upW r.length))) s (promL Lu).len (promL Lu).pos (promL Lu).small
  have a4 := C.c10 n ps (promR ps (alongR ps r (downW r.length))) s (promL Ld).len (promL Ld).pos (promL Ld).small
  rw [promR_length ps _ Lu.pos, up_len, (ev_facts L h10).2.2.1] at a3
  rw [promR_length ps _ Ld.pos, down_len, (ev_facts L h10).2.2.2.1] at a4
  simp only [run_f, s_st, s_nil', k_nx, k_rt, k_bk, k_ct, m_asg, m_asgO, m_asgT, m_par, m_set, m_app, m_expr, m_ite, m_for, m_ret, m_sput, m_sfill, v_var, v_bor, v_int, v_bl, v_str, v_non, v_sget, v_not, v_and, v_or, v_ife, v_tup, v_lst, v_dnew, v_call, v_bi, v_comp, o_nil', o_bor, e_nil, e_star, t_nil', t_ex, c_turn, asB, asI, isSrc, outR, bindT, bindTs, putsE, fr, szLine, List.length_cons, List.length_nil, List.map_cons, List.map_nil, List.cons_append, List.nil_append, List.append_nil, List.getElem?_cons_zero, List.getElem?_cons_succ, List.set_cons_zero, List.set_cons_succ, List.replicate_zero, List.replicate_succ, List.getD_cons_zero, Nat.reduceSub, Nat.reduceAdd, Option.bind_some, Option.bind_none, Option.map_some, if_true, if_false, Bool.and_true, Bool.true_and, Bool.not_true, Bool.not_false, Bool.or_true, Bool.true_or, Bool.false_or, Bool.or_false, Bool.and_false, Bool.false_and, Bool.and_self, Bool.or_self, Bool.false_eq_true, startE, reduceCtorEq, List.contains_nil, List.contains_cons, Nat.reduceBEq, ite_self, Nat.reduceLeDiff, Nat.reduceEqDiff, Int.reduceLE, Int.reduceLT, Int.reduceNeg, Int.reduceAdd, Int.reduceSub, ↓reduceIte, decide_true, decide_false, true_or, or_true, or_false, false_or, or_self, not_true_eq_false, not_false_eq_true, if_true, itemsL_, itemsT_, o_var_, e_var_, o_mv_, e_mv_, o_rel_, e_rel_, o_int_, e_int_, o_bl_, e_bl_, o_str_, e_str_, o_non_, e_non_, o_not_, e_not_, o_and_, e_and_, o_or_, e_or_, o_ife_, e_ife_, o_tup_, e_tup_, o_lst_, e_lst_, o_dnew_, e_dnew_, o_call_, e_call_, o_bi_, e_bi_, o_pop_, e_pop_, o_popAt_, e_popAt_, o_sget_, e_sget_, o_comp_, e_comp_, e_bor_, b_add_, b_addT_, b_addL_, b_sub_, b_mod_, b_fdiv_, b_cmp_, b_neg_, b_idxL_, b_idxT_, b_idxD_, b_slcTt_, b_slcTf_, b_slcLt_, b_slcLf_, b_revL_, b_lenL_, b_lenT_, b_abs_, b_toint_, b_totupL_, b_totupT_, b_tolstL_, b_tolstT_, b_repr_, b_lr1_, b_lr2_, b_lr3_, b_clt_, b_cle_, b_cgt_, b_cge_, b_ceq_, b_cne_, b_cin_, b_cni_, b_badbin_, b_badcmp_, b_wseqL_, b_wseqT_, b_wr1_, b_wr2_, b_wr3_, b_wenL_, b_wenT_, bad_neg_, bad_idx_, bad_rev_, bad_cnt_, bad_len_, bad_sum_, bad_max1_, bad_min1_, bad_max2_, bad_min2_, bad_abs_, bad_toint_, bad_totup_, bad_tolst_, bad_sorted_, bad_repr_, bad_mint_, bad_any_, bad_all_, bad_lrange1_, bad_lrange2_, bad_lrange3_, bad_slc_, bad_dict_, bad_ixL_, bad_ixT_, p20, p21, p10, p30, p31, p32, rd0_, rv0_, ro0_, rl0_, rd1_, rv1_, ro1_, rl1_, rd2_, rv2_, ro2_, rl2_, rd3_, rv3_, ro3_, rl3_, rd4_, rv4_, ro4_, rl4_, rd5_, rv5_, ro5_, rl5_, rd6_, rv6_, ro6_, rl6_, rd7_, rv7_, ro7_, rl7_, rd8_, rv8_, ro8_, rl8_, rd9_, rv9_, ro9_, rl9_, rd10_, rv10_, ro10_, rl10_, rd11_, rv11_, ro11_, rl11_, rd12_, rv12_, ro12_, rl12_, rd13_, rv13_, ro13_, rl13_, rd14_, rv14_, ro14_, rl14_, rd15_, rv15_, ro15_, rl15_, rd16_, rv16_, ro16_, rl16_, rd17_, rv17_, ro17_, rl17_, a1, a2, a3, a4, eqD_row]
theorem w12_run (C : CF cf) {n : Int} {ps : List (Int × Int)} {r : List Int} (L : Lin n ps r) (s : Sr) : evS cf false F w12 (E16 x2 (some (false, ordD n ps)) x4 x5 x6 x7 (some (false, .int n)) (some (false, rowD r)) x10 x11 x12 x13 x14 x15) s = some (.nx (E16 x2 (some (false, ordD n ps)) x4 x5 (some (false, rowD (oftenS ps true r r.length))) x7 (some (false, .int n)) (some (false, rowD r)) x10 x11 x12 x13 x14 x15) s) := by
  have h1 := L.len
  have h2 := L.pos
  have h3 := L.small
  have a1 := C.c6 n ps r n s L.len L.pos L.small (by omega)
  rw [decide_eq_true (show 0 < n by omega), show n.natAbs = r.length by omega] at a1
  simp only [run_f, s_st, s_nil', k_nx, k_rt, k_bk, k_ct, m_asg, m_asgO, m_asgT, m_par, m_set, m_app, m_expr, m_ite, m_for, m_ret, m_sput, m_sfill, v_var, v_bor, v_int, v_bl, v_str, v_non, v_sget, v_not, v_and, v_or, v_ife, v_tup, v_lst, v_dnew, v_call, v_bi, v_comp, o_nil', o_bor, e_nil, e_star, t_nil', t_ex, c_turn, asB, asI, isSrc, outR, bindT, bindTs, putsE, fr, szLine, List.length_cons, List.length_nil, List.map_cons, List.map_nil, List.cons_append, List.nil_append, List.append_nil, List.getElem?_cons_zero, List.getElem?_cons_succ, List.set_cons_zero, List.set_cons_succ, List.replicate_zero, List.replicate_succ, List.getD_cons_zero, Nat.reduceSub, Nat.reduceAdd, Option.bind_some, Option.bind_none, Option.map_some, if_true, if_false, Bool.and_true, Bool.true_and, Bool.not_true, Bool.not_false, Bool.or_true, Bool.true_or, Bool.false_or, Bool.or_false, Bool.and_false, Bool.false_and, Bool.and_self, Bool.or_self, Bool.false_eq_true, startE, reduceCtorEq, List.contains_nil, List.contains_cons, Nat.reduceBEq, ite_self, Nat.reduceLeDiff, Nat.reduceEqDiff, Int.reduceLE, Int.reduceLT, Int.reduceNeg, Int.reduceAdd, Int.reduceSub, ↓reduceIte, decide_true, decide_false, true_or, or_true, or_false, false_or, or_self, not_true_eq_false, not_false_eq_true, if_true, itemsL_, itemsT_, o_var_, e_var_, o_mv_, e_mv_, o_rel_, e_rel_, o_int_, e_int_, o_bl_, e_bl_, o_str_, e_str_, o_non_, e_non_, o_not_, e_not_, o_and_, e_and_, o_or_, e_or_, o_ife_, e_ife_, o_tup_, e_tup_, o_lst_, e_lst_, o_dnew_, e_dnew_, o_call_, e_call_, o_bi_, e_bi_, o_pop_, e_pop_, o_popAt_, e_popAt_, o_sget_, e_sget_, o_comp_, e_comp_, e_bor_, b_add_, b_addT_, b_addL_, b_sub_, b_mod_, b_fdiv_, b_cmp_, b_neg_, b_idxL_, b_idxT_, b_idxD_, b_slcTt_, b_slcTf_, b_slcLt_, b_slcLf_, b_revL_, b_lenL_, b_lenT_, b_abs_, b_toint_, b_totupL_, b_totupT_, b_tolstL_, b_tolstT_, b_repr_, b_lr1_, b_lr2_, b_lr3_, b_clt_, b_cle_, b_cgt_, b_cge_, b_ceq_, b_cne_, b_cin_, b_cni_, b_badbin_, b_badcmp_, b_wseqL_, b_wseqT_, b_wr1_, b_wr2_, b_wr3_, b_wenL_, b_wenT_, bad_neg_, bad_idx_, bad_rev_, bad_cnt_, bad_len_, bad_sum_, bad_max1_, bad_min1_, bad_max2_, bad_min2_, bad_abs_, bad_toint_, bad_totup_, bad_tolst_, bad_sorted_, bad_repr_, bad_mint_, bad_any_, bad_all_, bad_lrange1_, bad_lrange2_, bad_lrange3_, bad_slc_, bad_dict_, bad_ixL_, bad_ixT_, p20, p21, p10, p30, p31, p32, rd0_, rv0_, ro0_, rl0_, rd1_, rv1_, ro1_, rl1_, rd2_, rv2_, ro2_, rl2_, rd3_, rv3_, ro3_, rl3_, rd4_, rv4_, ro4_, rl4_, rd5_, rv5_, ro5_, rl5_, rd6_, rv6_, ro6_, rl6_, rd7_, rv7_, ro7_, rl7_, rd8_, rv8_, ro8_, rl8_, rd9_, rv9_, ro9_, rl9_, rd10_, rv10_, ro10_, rl10_, rd11_, rv11_, ro11_, rl11_, rd12_, rv12_, ro12_, rl12_, rd13_, rv13_, ro13_, rl13_, rd14_, rv14_, ro14_, rl14_, rd15_, rv15_, ro15_, rl15_, rd16_, rv16_, ro16_, rl16_, rd17_, rv17_, ro17_, rl17_, a1]
theorem w13_run (C : CF cf) {n : Int} {ps : List (Int × Int)} {r : List Int} (L : Lin n ps r) (h10 : r.length ≤ 10) (s : Sr) : evS cf false F w13 (E16 x2 (some (false, ordD n ps)) x4 x5 (some (false, rowD (oftenS ps true r r.length))) x7 x8 (some (false, rowD r)) x10 x11 x12 (some (false, rowD (alongR ps r (upW r.length)))) x14 x15) s = some (.nx (E16 x2 (some (false, ordD n ps)) x4 x5 (some (false, rowD (oftenS ps true r r.length))) x7 x8 (some (false, rowD r)) x10 x11 x12 (some (false, rowD (alongR ps r (upW r.length)))) x14 x15) s) := by
  have Lu := upL L
  have Lo := oftL true r.length L
  have hlo : (oftenS ps true r r.length).length = r.length := by have h1 := Lo.len; have h2 := L.len; omega
  have a1 := C.c10 n ps (alongR ps r (upW r.length)) s Lu.len Lu.pos Lu.small
  have a2 := C.c10 n ps (oftenS ps true r r.length) s Lo.len Lo.pos Lo.small
  have Lb := downL Lo
  have a3 := C.c9 n ps (alongR ps (oftenS ps true r r.length) (downW (oftenS ps true r r.length).length)) s Lb.len Lb.pos Lb.small
  rw [down_len] at a3
  rw [hlo] at a2 a3
  rw [up_len, (ev_facts L h10).2.2.2.2.1] at a1
  rw [(ev_facts L h10).2.2.2.2.2] at a3
  simp only [run_f, s_st, s_nil', k_nx, k_rt, k_bk, k_ct, m_asg, m_asgO, m_asgT, m_par, m_set, m_app, m_expr, m_ite, m_for, m_ret, m_sput, m_sfill, v_var, v_bor, v_int, v_bl, v_str, v_non, v_sget, v_not, v_and, v_or, v_ife, v_tup, v_lst, v_dnew, v_call, v_bi, v_comp, o_nil', o_bor, e_nil, e_star, t_nil', t_ex, c_turn, asB, asI, isSrc, outR, bindT, bindTs, putsE, fr, szLine, List.length_cons, List.length_nil, List.map_cons, List.map_nil, List.cons_append, List.nil_append, List.append_nil, List.getElem?_cons_zero, List.getElem?_cons_succ, List.set_cons_zero, List.set_cons_succ, List.replicate_zero, List.replicate_succ, List.getD_cons_zero, Nat.reduceSub, Nat.reduceAdd, Option.bind_some, Option.bind_none, Option.map_some, if_true, if_false, Bool.and_true, Bool.true_and, Bool.not_true, Bool.not_false, Bool.or_true, Bool.true_or, Bool.false_or, Bool.or_false, Bool.and_false, Bool.false_and, Bool.and_self, Bool.or_self, Bool.false_eq_true, startE, reduceCtorEq, List.contains_nil, List.contains_cons, Nat.reduceBEq, ite_self, Nat.reduceLeDiff, Nat.reduceEqDiff, Int.reduceLE, Int.reduceLT, Int.reduceNeg, Int.reduceAdd, Int.reduceSub, ↓reduceIte, decide_true, decide_false, true_or, or_true, or_false, false_or, or_self, not_true_eq_false, not_false_eq_true, if_true, itemsL_, itemsT_, o_var_, e_var_, o_mv_, e_mv_, o_rel_, e_rel_, o_int_, e_int_, o_bl_, e_bl_, o_str_, e_str_, o_non_, e_non_, o_not_, e_not_, o_and_, e_and_, o_or_, e_or_, o_ife_, e_ife_, o_tup_, e_tup_, o_lst_, e_lst_, o_dnew_, e_dnew_, o_call_, e_call_, o_bi_, e_bi_, o_pop_, e_pop_, o_popAt_, e_popAt_, o_sget_, e_sget_, o_comp_, e_comp_, e_bor_, b_add_, b_addT_, b_addL_, b_sub_, b_mod_, b_fdiv_, b_cmp_, b_neg_, b_idxL_, b_idxT_, b_idxD_, b_slcTt_, b_slcTf_, b_slcLt_, b_slcLf_, b_revL_, b_lenL_, b_lenT_, b_abs_, b_toint_, b_totupL_, b_totupT_, b_tolstL_, b_tolstT_, b_repr_, b_lr1_, b_lr2_, b_lr3_, b_clt_, b_cle_, b_cgt_, b_cge_, b_ceq_, b_cne_, b_cin_, b_cni_, b_badbin_, b_badcmp_, b_wseqL_, b_wseqT_, b_wr1_, b_wr2_, b_wr3_, b_wenL_, b_wenT_, bad_neg_, bad_idx_, bad_rev_, bad_cnt_, bad_len_, bad_sum_, bad_max1_, bad_min1_, bad_max2_, bad_min2_, bad_abs_, bad_toint_, bad_totup_, bad_tolst_, bad_sorted_, bad_repr_, bad_mint_, bad_any_, bad_all_, bad_lrange1_, bad_lrange2_, bad_lrange3_, bad_slc_, bad_dict_, bad_ixL_, bad_ixT_, p20, p21, p10, p30, p31, p32, rd0_, rv0_, ro0_, rl0_, rd1_, rv1_, ro1_, rl1_, rd2_, rv2_, ro2_, rl2_, rd3_, rv3_, ro3_, rl3_, rd4_, rv4_, ro4_, rl4_, rd5_, rv5_, ro5_, rl5_, rd6_, rv6_, ro6_, rl6_, rd7_, rv7_, ro7_, rl7_, rd8_, rv8_, ro8_, rl8_, rd9_, rv9_, ro9_, rl9_, rd10_, rv10_, ro10_, rl10_, rd11_, rv11_, ro11_, rl11_, rd12_, rv12_, ro12_, rl12_, rd13_, rv13_, ro13_, rl13_, rd14_, rv14_, ro14_, rl14_, rd15_, rv15_, ro15_, rl15_, rd16_, rv16_, ro16_, rl16_, rd17_, rv17_, ro17_, rl17_, a1, a2, a3, eqD_row]
theorem isL_lin {n : Int} {ps : List (Int × Int)} {r : List Int} (L : Lin n ps r) : isL ps r = true :=
  (isL_iff (n := n) L.nd L.pm).mpr fun a b h => by
    obtain ⟨i, j, hij, h1, h2⟩ := L.ext a b h
    exact ⟨i, j, Nat.le_of_lt hij, h1, h2⟩
theorem w14_run (C : CF cf) {n : Int} {ps : List (Int × Int)} {r : List Int} (L : Lin n ps r) (hf : ps.length ≤ 10000) (s : Sr) (hs : s.fz = true) : evS cf false F w14 (E16 x2 (some (false, ordD n ps)) x4 x5 x6 x7 x8 (some (false, rowD r)) (some (false, .rep (.lst [ordD n ps, rowD r]))) x11 x12 (some (false, rowD (alongR ps r (upW r.length)))) (some (false, rowD (alongR ps r (downW r.length)))) x15) s = some (.nx (E16 x2 (some (false, ordD n ps)) x4 x5 x6 x7 x8 (some (false, rowD r)) (some (false, .rep (.lst [ordD n ps, rowD r]))) x11 x12 (some (false, rowD (alongR ps r (upW r.length)))) (some (false, rowD (alongR ps r (downW r.length)))) x15) s) := by
  have a1 := C.c16 n ps (alongR ps r (upW r.length)) s (upL L).pm hs
  have a2 := C.c16 n ps (alongR ps r (downW r.length)) s (downL L).pm hs
  rw [isL_lin (upL L)] at a1
  rw [isL_lin (downL L)] at a2
  have a3 := repr_ord L hf
  rw [b_repr_] at a3
  simp only [run_f, s_st, s_nil', k_nx, k_rt, k_bk, k_ct, m_asg, m_asgO, m_asgT, m_par, m_set, m_app, m_expr, m_ite, m_for, m_ret, m_sput, m_sfill, v_var, v_bor, v_int, v_bl, v_str, v_non, v_sget, v_not, v_and, v_or, v_ife, v_tup, v_lst, v_dnew, v_call, v_bi, v_comp, o_nil', o_bor, e_nil, e_star, t_nil', t_ex, c_turn, asB, asI, isSrc, outR, bindT, bindTs, putsE, fr, szLine, List.length_cons, List.length_nil, List.map_cons, List.map_nil, List.cons_append, List.nil_append, List.append_nil, List.getElem?_cons_zero, List.getElem?_cons_succ, List.set_cons_zero, List.set_cons_succ, List.replicate_zero, List.replicate_succ, List.getD_cons_zero, Nat.reduceSub, Nat.reduceAdd, Option.bind_some, Option.bind_none, Option.map_some, if_true, if_false, Bool.and_true, Bool.true_and, Bool.not_true, Bool.not_false, Bool.or_true, Bool.true_or, Bool.false_or, Bool.or_false, Bool.and_false, Bool.false_and, Bool.and_self, Bool.or_self, Bool.false_eq_true, startE, reduceCtorEq, List.contains_nil, List.contains_cons, Nat.reduceBEq, ite_self, Nat.reduceLeDiff, Nat.reduceEqDiff, Int.reduceLE, Int.reduceLT, Int.reduceNeg, Int.reduceAdd, Int.reduceSub, ↓reduceIte, decide_true, decide_false, true_or, or_true, or_false, false_or, or_self, not_true_eq_false, not_false_eq_true, if_true, itemsL_, itemsT_, o_var_, e_var_, o_mv_, e_mv_, o_rel_, e_rel_, o_int_, e_int_, o_bl_, e_bl_, o_str_, e_str_, o_non_, e_non_, o_not_, e_not_, o_and_, e_and_, o_or_, e_or_, o_ife_, e_ife_, o_tup_, e_tup_, o_lst_, e_lst_, o_dnew_, e_dnew_, o_call_, e_call_, o_bi_, e_bi_, o_pop_, e_pop_, o_popAt_, e_popAt_, o_sget_, e_sget_, o_comp_, e_comp_, e_bor_, b_add_, b_addT_, b_addL_, b_sub_, b_mod_, b_fdiv_, b_cmp_, b_neg_, b_idxL_, b_idxT_, b_idxD_, b_slcTt_, b_slcTf_, b_slcLt_, b_slcLf_, b_revL_, b_lenL_, b_lenT_, b_abs_, b_toint_, b_totupL_, b_totupT_, b_tolstL_, b_tolstT_, b_repr_, b_lr1_, b_lr2_, b_lr3_, b_clt_, b_cle_, b_cgt_, b_cge_, b_ceq_, b_cne_, b_cin_, b_cni_, b_badbin_, b_badcmp_, b_wseqL_, b_wseqT_, b_wr1_, b_wr2_, b_wr3_, b_wenL_, b_wenT_, bad_neg_, bad_idx_, bad_rev_, bad_cnt_, bad_len_, bad_sum_, bad_max1_, bad_min1_, bad_max2_, bad_min2_, bad_abs_, bad_toint_, bad_totup_, bad_tolst_, bad_sorted_, bad_repr_, bad_mint_, bad_any_, bad_all_, bad_lrange1_, bad_lrange2_, bad_lrange3_, bad_slc_, bad_dict_, bad_ixL_, bad_ixT_, p20, p21, p10, p30, p31, p32, rd0_, rv0_, ro0_, rl0_, rd1_, rv1_, ro1_, rl1_, rd2_, rv2_, ro2_, rl2_, rd3_, rv3_, ro3_, rl3_, rd4_, rv4_, ro4_, rl4_, rd5_, rv5_, ro5_, rl5_, rd6_, rv6_, ro6_, rl6_, rd7_, rv7_, ro7_, rl7_, rd8_, rv8_, ro8_, rl8_, rd9_, rv9_, ro9_, rl9_, rd10_, rv10_, ro10_, rl10_, rd11_, rv11_, ro11_, rl11_, rd12_, rv12_, ro12_, rl12_, rd13_, rv13_, ro13_, rl13_, rd14_, rv14_, ro14_, rl14_, rd15_, rv15_, ro15_, rl15_, rd16_, rv16_, ro16_, rl16_, rd17_, rv17_, ro17_, rl17_, a1, a2, a3, eqD_rep]
end Toy
end

section
set_option linter.all false
set_option autoImplicit false
set_option maxRecDepth 10000
namespace Toy
open Rf
variable (cf : Cf) (F : Nat)
theorem st_go {cf : Cf} {F : Nat} {st : Sm} {r : List Sm} {env env' : Env} {s s' : Sr} (h : evS cf false F st env s = some (.nx env' s')) : evSs cf false F (st :: r) env s = evSs cf false F r env' s' := by
  rw [s_st, h]; rfl
def EnvOk (env : Env) : Prop := ∃ x2 x3 x4 x5 x6 x7 x8 x9 x10 x11 x12 x13 x14 x15, env = E16 x2 x3 x4 x5 x6 x7 x8 x9 x10 x11 x12 x13 x14 x15 ∧ nOw x2 ∧ nOw x3 ∧ nOw x4 ∧ nOw x7 ∧ nOw x8 ∧ nOw x9 ∧ nOw x15
theorem lap_run (C : CF cf) (l : Nat) (hl : l < 4) (x3 x4 x5 x6 x7 x8 x9 x10 x11 x12 x13 x14 x15 : Option (Bool × D)) (h3 : nOw x3) (h4 : nOw x4) (h7 : nOw x7) (h8 : nOw x8) (h9 : nOw x9) (h15 : nOw x15) (s : Sr) (hs : s.fz = true) : ∃ env' s', evSs cf false F lapB (E16 (some (false, .int (l : Int))) x3 x4 x5 x6 x7 x8 x9 x10 x11 x12 x13 x14 x15) s = some (.nx env' s') ∧ EnvOk env' ∧ s'.fz = true := by
  obtain ⟨n, ps, R, s1, e1, L0, hf, hR, f1⟩ := w1_run cf F x3 x4 x5 x6 x7 x8 x9 x10 x11 x12 x13 x14 x15 C l hl h3 h7 s
  obtain ⟨r, s2, e2, L, f2⟩ := w2_run cf F (some (false, .int (l : Int))) x4 x5 x6 x8 x9 x10 x11 x12 x13 x14 x15 C L0 h8 h9 s1
  have h10 : r.length ≤ 10 := by have a := L.len; have b := L0.len; omega
  have e3 := w3_run cf F (some (false, .int (l : Int))) x4 x5 x6 (some (false, rowD R)) (some (false, .int n)) x10 x11 x12 x13 x14 x15 L hf s2
  obtain ⟨y4, e4, n4⟩ := w4_run cf F (some (false, .int (l : Int))) (some (false, ordD n ps)) x4 x5 x6 (some (false, rowD R)) (some (false, rowD r)) (some (false, .rep (.lst [ordD n ps, rowD r]))) x13 x14 x15 r.length L.len L.pos L.small h15 h4 s2
  have e5 := w5_run cf F (some (false, .int (l : Int))) (some (false, ordD n ps)) y4 x5 x6 (some (false, rowD R)) (some (false, rowD r)) (some (false, .rep (.lst [ordD n ps, rowD r]))) x13 x14 x15 C r.length L.len L.pos L.small s2
  have e6 := w6_run cf F (some (false, .int (l : Int))) y4 x5 x6 (some (false, rowD R)) (some (false, .int n)) (some (false, .rep (.lst [ordD n ps, rowD r]))) (some (false, .lst (natsD (upW r.length)))) (some (false, .lst (natsD (downW r.length)))) x13 x14 x15 C L s2
  have e7 := w7_run cf F (some (false, .int (l : Int))) y4 x5 x6 (some (false, rowD R)) (some (false, .int n)) (some (false, .rep (.lst [ordD n ps, rowD r]))) (some (false, .lst (natsD (upW r.length)))) x15 C L s2 (by rw [f2, f1, hs])
  have e8 := w8_run cf F (some (false, .int (l : Int))) y4 x5 x6 (some (false, rowD R)) (some (false, .int n)) (some (false, .rep (.lst [ordD n ps, rowD r]))) (some (false, .lst (natsD (downW r.length)))) (some (false, rowD (alongR ps r (downW r.length)))) x15 C L h10 s2 (by rw [f2, f1, hs])
  have e9 := w9_run cf F (some (false, .int (l : Int))) y4 x5 x6 (some (false, rowD R)) (some (false, .int n)) (some (false, .rep (.lst [ordD n ps, rowD r]))) (some (false, .lst (natsD (upW r.length)))) (some (false, .lst (natsD (downW r.length)))) (some (false, rowD (alongR ps r (upW r.length)))) x15 C L h10 s2
  have e10 := w10_run cf F (some (false, .int (l : Int))) y4 x5 x6 (some (false, rowD R)) (some (false, .int n)) (some (false, .rep (.lst [ordD n ps, rowD r]))) (some (false, .lst (natsD (upW r.length)))) (some (false, .lst (natsD (downW r.length)))) (some (false, rowD (alongR ps r (upW r.length)))) (some (false, rowD (alongR ps r (downW r.length)))) x15 C L s2
  have e11 := w11_run cf F (some (false, .int (l : Int))) y4 x6 (some (false, rowD R)) (some (false, .int n)) (some (false, rowD r)) (some (false, .rep (.lst [ordD n ps, rowD r]))) (some (false, .lst (natsD (upW r.length)))) (some (false, .lst (natsD (downW r.length)))) x15 C L h10 s2
  have e12 := w12_run cf F (some (false, .int (l : Int))) y4 (some (false, rowD (demR ps r))) x6 (some (false, rowD R)) (some (false, .rep (.lst [ordD n ps, rowD r]))) (some (false, .lst (natsD (upW r.length)))) (some (false, .lst (natsD (downW r.length)))) (some (false, rowD (alongR ps r (upW r.length)))) (some (false, rowD (alongR ps r (downW r.length)))) x15 C L s2
  have e13 := w13_run cf F (some (false, .int (l : Int))) y4 (some (false, rowD (demR ps r))) (some (false, rowD R)) (some (false, .int n)) (some (false, .rep (.lst [ordD n ps, rowD r]))) (some (false, .lst (natsD (upW r.length)))) (some (false, .lst (natsD (downW r.length)))) (some (false, rowD (alongR ps r (downW r.length)))) x15 C L h10 s2
  have e14 := w14_run cf F (some (false, .int (l : Int))) y4 (some (false, rowD (demR ps r))) (some (false, rowD (oftenS ps true r r.length))) (some (false, rowD R)) (some (false, .int n)) (some (false, .lst (natsD (upW r.length)))) (some (false, .lst (natsD (downW r.length)))) x15 C L hf s2 (by rw [f2, f1, hs])
  refine ⟨E16 (some (false, .int (l : Int))) (some (false, ordD n ps)) y4 (some (false, rowD (demR ps r))) (some (false, rowD (oftenS ps true r r.length))) (some (false, rowD R)) (some (false, .int n)) (some (false, rowD r)) (some (false, .rep (.lst [ordD n ps, rowD r]))) (some (false, .lst (natsD (upW r.length)))) (some (false, .lst (natsD (downW r.length)))) (some (false, rowD (alongR ps r (upW r.length)))) (some (false, rowD (alongR ps r (downW r.length)))) x15, s2, (st_go e1).trans ((st_go e2).trans ((st_go e3).trans ((st_go e4).trans ((st_go e5).trans ((st_go e6).trans ((st_go e7).trans ((st_go e8).trans ((st_go e9).trans ((st_go e10).trans ((st_go e11).trans ((st_go e12).trans ((st_go e13).trans ((st_go e14).trans ((s_nil' _ _ _ _ _))))))))))))))), ⟨_, _, _, _, _, _, _, _, _, _, _, _, _, _, rfl, nOw_v _, nOw_v _, n4, nOw_v _, nOw_v _, nOw_v _, h15⟩, by rw [f2, f1, hs]⟩
theorem laps_run (C : CF cf) : ∀ (ls : List Nat) (env : Env) (s : Sr), (∀ l ∈ ls, l < 4) → EnvOk env → s.fz = true → ∃ env' s', forT (forB cf false F (.nm 2) lapB) (natsD ls) env s = some (.nx env' s') ∧ EnvOk env' ∧ s'.fz = true
  | [], env, s, _, h, hs => ⟨env, s, rfl, h, hs⟩
  | l :: ls, env, s, hl, h, hs => by
    obtain ⟨x2, x3, x4, x5, x6, x7, x8, x9, x10, x11, x12, x13, x14, x15, rfl, h2, h3, h4, h7, h8, h9, h15⟩ := h
    obtain ⟨env1, s1, e1, k1, f1⟩ := lap_run cf F C l (hl l List.mem_cons_self) x3 x4 x5 x6 x7 x8 x9 x10 x11 x12 x13 x14 x15 h3 h4 h7 h8 h9 h15 s hs
    obtain ⟨env2, s2, e2, k2, f2⟩ := laps_run C ls env1 s1 (fun j hj => hl j (List.mem_cons_of_mem _ hj)) k1 f1
    refine ⟨env2, s2, (f_step ?_).trans e2, k2, f2⟩
    unfold forB
    rw [bind_nm (fun d h => h2 d (by simpa using h))]
    exact e1
theorem fix_up : alongR [(0, 1), (0, 2), (0, 3), (1, 3)] [0, 1, 2, 3] (upW 4) = [0, 1, 2, 3] := by decide +kernel
theorem fix_down : alongR [(0, 1), (0, 2), (0, 3), (1, 3)] [0, 1, 2, 3] (downW 4) = [0, 2, 1, 3] := by decide +kernel
theorem law_plain (C : CF cf) (s : Sr) (hs : s.fz = true) : ∃ s', evSs cf false F b_law (none :: some (false, .src) :: List.replicate 14 none) s = some (.rt (.bl true) s') := by
  have nn : nOw none := fun d h => by cases h
  obtain ⟨env1, s1, e1, ⟨x2, x3, x4, x5, x6, x7, x8, x9, x10, x11, x12, x13, x14, x15, rfl, _⟩, f1⟩ := laps_run cf F C (List.range 4) (E16 none none none none none none none none none none none none none none) s (fun l h => by simpa using h) ⟨_, _, _, _, _, _, _, _, _, _, _, _, _, _, rfl, nn, nn, nn, nn, nn, nn, nn⟩ hs
  have h4 := C.c9 4 [(0, 1), (0, 2), (0, 3), (1, 3)] [0, 1, 2, 3] s1 rfl (by decide) (by decide)
  have h5 := C.c10 4 [(0, 1), (0, 2), (0, 3), (1, 3)] [0, 1, 2, 3] s1 rfl (by decide) (by decide)
  rw [show ([0, 1, 2, 3] : List Int).length = 4 from rfl, fix_up] at h4
  rw [show ([0, 1, 2, 3] : List Int).length = 4 from rfl, fix_down] at h5
  have hq : eqD (.lst [.tup [.int 0, .int 1, .int 2, .int 3], .tup [.int 0, .int 2, .int 1, .int 3]]) (.lst [.tup [.int 0, .int 1, .int 2, .int 3], .tup [.int 0, .int 2, .int 1, .int 3]]) = some true := by decide +kernel
  simp only [rowD, ordD, pr, List.map_cons, List.map_nil] at h4 h5
  have hr : rangeD 0 4 1 = some (natsD (List.range 4)) := range_up (k := 4) (by decide)
  refine ⟨s1, ?_⟩
  have hf : evS cf false F (.for (.nm 2) .rng1 [.int 4] lapB) (E16 none none none none none none none none none none none none none none) s = some (.nx (E16 x2 x3 x4 x5 x6 x7 x8 x9 x10 x11 x12 x13 x14 x15) s1) := by
    rw [m_for]
    simp only [run_f, s_st, s_nil', k_nx, k_rt, k_bk, k_ct, m_asg, m_asgO, m_asgT, m_par, m_set, m_app, m_expr, m_ite, m_for, m_ret, m_sput, m_sfill, v_var, v_bor, v_int, v_bl, v_str, v_non, v_sget, v_not, v_and, v_or, v_ife, v_tup, v_lst, v_dnew, v_call, v_bi, v_comp, o_nil', o_bor, e_nil, e_star, t_nil', t_ex, c_turn, asB, asI, isSrc, outR, bindT, bindTs, putsE, fr, szLine, List.length_cons, List.length_nil, List.map_cons, List.map_nil, List.cons_append, List.nil_append, List.append_nil, List.getElem?_cons_zero, List.getElem?_cons_succ, List.set_cons_zero, List.set_cons_succ, List.replicate_zero, List.replicate_succ, List.getD_cons_zero, Nat.reduceSub, Nat.reduceAdd, Option.bind_some, Option.bind_none, Option.map_some, if_true, if_false, Bool.and_true, Bool.true_and, Bool.not_true, Bool.not_false, Bool.or_true, Bool.true_or, Bool.false_or, Bool.or_false, Bool.and_false, Bool.false_and, Bool.and_self, Bool.or_self, Bool.false_eq_true, startE, reduceCtorEq, List.contains_nil, List.contains_cons, Nat.reduceBEq, ite_self, Nat.reduceLeDiff, Nat.reduceEqDiff, Int.reduceLE, Int.reduceLT, Int.reduceNeg, Int.reduceAdd, Int.reduceSub, ↓reduceIte, decide_true, decide_false, true_or, or_true, or_false, false_or, or_self, not_true_eq_false, not_false_eq_true, if_true, itemsL_, itemsT_, o_var_, e_var_, o_mv_, e_mv_, o_rel_, e_rel_, o_int_, e_int_, o_bl_, e_bl_, o_str_, e_str_, o_non_, e_non_, o_not_, e_not_, o_and_, e_and_, o_or_, e_or_, o_ife_, e_ife_, o_tup_, e_tup_, o_lst_, e_lst_, o_dnew_, e_dnew_, o_call_, e_call_, o_bi_, e_bi_, o_pop_, e_pop_, o_popAt_, e_popAt_, o_sget_, e_sget_, o_comp_, e_comp_, e_bor_, b_add_, b_addT_, b_addL_, b_sub_, b_mod_, b_fdiv_, b_cmp_, b_neg_, b_idxL_, b_idxT_, b_idxD_, b_slcTt_, b_slcTf_, b_slcLt_, b_slcLf_, b_revL_, b_lenL_, b_lenT_, b_abs_, b_toint_, b_totupL_, b_totupT_, b_tolstL_, b_tolstT_, b_repr_, b_lr1_, b_lr2_, b_lr3_, b_clt_, b_cle_, b_cgt_, b_cge_, b_ceq_, b_cne_, b_cin_, b_cni_, b_badbin_, b_badcmp_, b_wseqL_, b_wseqT_, b_wr1_, b_wr2_, b_wr3_, b_wenL_, b_wenT_, bad_neg_, bad_idx_, bad_rev_, bad_cnt_, bad_len_, bad_sum_, bad_max1_, bad_min1_, bad_max2_, bad_min2_, bad_abs_, bad_toint_, bad_totup_, bad_tolst_, bad_sorted_, bad_repr_, bad_mint_, bad_any_, bad_all_, bad_lrange1_, bad_lrange2_, bad_lrange3_, bad_slc_, bad_dict_, bad_ixL_, bad_ixT_, p20, p21, p10, p30, p31, p32, rd0_, rv0_, ro0_, rl0_, rd1_, rv1_, ro1_, rl1_, rd2_, rv2_, ro2_, rl2_, rd3_, rv3_, ro3_, rl3_, rd4_, rv4_, ro4_, rl4_, rd5_, rv5_, ro5_, rl5_, rd6_, rv6_, ro6_, rl6_, rd7_, rv7_, ro7_, rl7_, rd8_, rv8_, ro8_, rl8_, rd9_, rv9_, ro9_, rl9_, rd10_, rv10_, ro10_, rl10_, rd11_, rv11_, ro11_, rl11_, rd12_, rv12_, ro12_, rl12_, rd13_, rv13_, ro13_, rl13_, rd14_, rv14_, ro14_, rl14_, rd15_, rv15_, ro15_, rl15_, rd16_, rv16_, ro16_, rl16_, rd17_, rv17_, ro17_, rl17_, hr]
    exact e1
  refine (st_go hf).trans ?_
  simp only [run_f, s_st, s_nil', k_nx, k_rt, k_bk, k_ct, m_asg, m_asgO, m_asgT, m_par, m_set, m_app, m_expr, m_ite, m_for, m_ret, m_sput, m_sfill, v_var, v_bor, v_int, v_bl, v_str, v_non, v_sget, v_not, v_and, v_or, v_ife, v_tup, v_lst, v_dnew, v_call, v_bi, v_comp, o_nil', o_bor, e_nil, e_star, t_nil', t_ex, c_turn, asB, asI, isSrc, outR, bindT, bindTs, putsE, fr, szLine, List.length_cons, List.length_nil, List.map_cons, List.map_nil, List.cons_append, List.nil_append, List.append_nil, List.getElem?_cons_zero, List.getElem?_cons_succ, List.set_cons_zero, List.set_cons_succ, List.replicate_zero, List.replicate_succ, List.getD_cons_zero, Nat.reduceSub, Nat.reduceAdd, Option.bind_some, Option.bind_none, Option.map_some, if_true, if_false, Bool.and_true, Bool.true_and, Bool.not_true, Bool.not_false, Bool.or_true, Bool.true_or, Bool.false_or, Bool.or_false, Bool.and_false, Bool.false_and, Bool.and_self, Bool.or_self, Bool.false_eq_true, startE, reduceCtorEq, List.contains_nil, List.contains_cons, Nat.reduceBEq, ite_self, Nat.reduceLeDiff, Nat.reduceEqDiff, Int.reduceLE, Int.reduceLT, Int.reduceNeg, Int.reduceAdd, Int.reduceSub, ↓reduceIte, decide_true, decide_false, true_or, or_true, or_false, false_or, or_self, not_true_eq_false, not_false_eq_true, if_true, itemsL_, itemsT_, o_var_, e_var_, o_mv_, e_mv_, o_rel_, e_rel_, o_int_, e_int_, o_bl_, e_bl_, o_str_, e_str_, o_non_, e_non_, o_not_, e_not_, o_and_, e_and_, o_or_, e_or_, o_ife_, e_ife_, o_tup_, e_tup_, o_lst_, e_lst_, o_dnew_, e_dnew_, o_call_, e_call_, o_bi_, e_bi_, o_pop_, e_pop_, o_popAt_, e_popAt_, o_sget_, e_sget_, o_comp_, e_comp_, e_bor_, b_add_, b_addT_, b_addL_, b_sub_, b_mod_, b_fdiv_, b_cmp_, b_neg_, b_idxL_, b_idxT_, b_idxD_, b_slcTt_, b_slcTf_, b_slcLt_, b_slcLf_, b_revL_, b_lenL_, b_lenT_, b_abs_, b_toint_, b_totupL_, b_totupT_, b_tolstL_, b_tolstT_, b_repr_, b_lr1_, b_lr2_, b_lr3_, b_clt_, b_cle_, b_cgt_, b_cge_, b_ceq_, b_cne_, b_cin_, b_cni_, b_badbin_, b_badcmp_, b_wseqL_, b_wseqT_, b_wr1_, b_wr2_, b_wr3_, b_wenL_, b_wenT_, bad_neg_, bad_idx_, bad_rev_, bad_cnt_, bad_len_, bad_sum_, bad_max1_, bad_min1_, bad_max2_, bad_min2_, bad_abs_, bad_toint_, bad_totup_, bad_tolst_, bad_sorted_, bad_repr_, bad_mint_, bad_any_, bad_all_, bad_lrange1_, bad_lrange2_, bad_lrange3_, bad_slc_, bad_dict_, bad_ixL_, bad_ixT_, p20, p21, p10, p30, p31, p32, rd0_, rv0_, ro0_, rl0_, rd1_, rv1_, ro1_, rl1_, rd2_, rv2_, ro2_, rl2_, rd3_, rv3_, ro3_, rl3_, rd4_, rv4_, ro4_, rl4_, rd5_, rv5_, ro5_, rl5_, rd6_, rv6_, ro6_, rl6_, rd7_, rv7_, ro7_, rl7_, rd8_, rv8_, ro8_, rl8_, rd9_, rv9_, ro9_, rl9_, rd10_, rv10_, ro10_, rl10_, rd11_, rv11_, ro11_, rl11_, rd12_, rv12_, ro12_, rl12_, rd13_, rv13_, ro13_, rl13_, rd14_, rv14_, ro14_, rl14_, rd15_, rv15_, ro15_, rl15_, rd16_, rv16_, ro16_, rl16_, rd17_, rv17_, ro17_, rl17_, h4, h5, hq]
/-! join -/
theorem call_py {f : Nat} {fd : Fd} (h : tb f = some (.py fd)) (F k : Nat) (ds : List D) (s : Sr) : callF tb F (k + 1) f ds s = runF (callF tb F k) F fd ds s := by
  show (match tb f with | some (.py fd) => runF (callF tb F k) F fd ds s | some (.prim g) => g ds s | none => none) = _
  rw [h]
theorem tPick (k : Nat) : PickOk (callF tb 1000 (k + 1)) := fun m s hm => by
  rw [call_py (f := 12) rfl]; exact pick_run _ _ m s hm
theorem tOf (k : Nat) : OfOk (callF tb 1000 (k + 2)) := fun l xs s h1 h2 h3 => by
  rw [call_py (f := 13) rfl]; exact of_run _ _ (tPick k) l xs h1 h2 h3 s
theorem tMix (k : Nat) : MixOk (callF tb 1000 (k + 2)) := fun l xs s h1 h2 => by
  rw [call_py (f := 14) rfl]; exact mixed_run _ _ (tPick k) l xs h1 h2 s
theorem t1 (k : Nat) (n : Int) (ps : List (Int × Int)) (r : List Int) (i : Nat) (s : Sr) (h : i + 1 < r.length) (h2 : r.length ≤ 1000) : callF tb 1000 (k + 2) 1 [ordD n ps, rowD r, .int i] s = some (rowD (swapR ps r i), s) := by
  rw [call_py (f := 1) rfl]
  exact swapped_run _ _ n ps r i s h h2 (fun a b s => by rw [call_py (f := 0) rfl]; exact loose_run _ _ n ps a b s)
theorem t2 (k : Nat) (n : Int) (ps : List (Int × Int)) (x : D) (ks : List Nat) (r : List Int) (s : Sr) (hx : D.items x = some (natsD ks)) (hk : ∀ k ∈ ks, k + 1 < r.length) (h2 : r.length ≤ 1000) : callF tb 1000 (k + 3) 2 [ordD n ps, rowD r, x] s = some (rowD (alongR ps r ks), s) := by
  rw [call_py (f := 2) rfl]
  exact along_run _ _ n ps r.length h2 (fun r' i s h1 h3 => t1 k n ps r' i s h1 (by omega)) x ks hx r s hk rfl
theorem t3 (k : Nat) (n : Int) (ps : List (Int × Int)) (r : List Int) (s : Sr) (h1 : 0 < r.length) (h2 : r.length ≤ 1000) : callF tb 1000 (k + 1) 3 [ordD n ps, rowD r] s = some (rowD (pathR ps r), s) := by
  rw [call_py (f := 3) rfl]
  exact path_run _ _ n ps r s h1 h2
theorem t4 (k : Nat) (n : Int) (ps : List (Int × Int)) (r : List Int) (s : Sr) (h1 : 0 < r.length) (h2 : r.length ≤ 1000) : callF tb 1000 (k + 2) 4 [ordD n ps, rowD r] s = some (rowD (promR ps r), s) := by
  rw [call_py (f := 4) rfl]
  exact promoted_run _ _ n ps r s h1 h2 (fun s => t3 k n ps r s h1 h2)
theorem t16 (k : Nat) (n : Int) (ps : List (Int × Int)) (r : List Int) (s : Sr) (h : ∀ p ∈ ps, p.1 ∈ r ∧ p.2 ∈ r) (hf : s.fz = true) : callF tb 1000 (k + 1) 16 [ordD n ps, rowD r] s = some (.bl (isL ps r), s) := by
  rw [call_py (f := 16) rfl]
  exact isl_run _ _ n ps r s h hf
theorem t17 (k : Nat) (n : Int) (ps : List (Int × Int)) (r : List Int) (i : Nat) (s : Sr) (hi : i + 1 < r.length) (hr : r.length ≤ 1000) (h : ∀ p ∈ ps, p.1 ∈ r ∧ p.2 ∈ r) (hf : s.fz = true) : callF tb 1000 (k + 2) 17 [ordD n ps, rowD r, .int i] s = some (rowD (lswapR ps r i), s) := by
  rw [call_py (f := 17) rfl]
  exact lswap_run _ _ n ps r i s hi hr h hf (fun r' s h1 h2 => t16 k n ps r' s h1 h2)
theorem t18 (k : Nat) (n : Int) (ps : List (Int × Int)) (r : List Int) (x : D) (ks : List Nat) (s : Sr) (L : Lin n ps r) (hx : D.items x = some (natsD ks)) (hk : ∀ k ∈ ks, k + 1 < r.length) (hf : s.fz = true) : callF tb 1000 (k + 3) 18 [ordD n ps, rowD r, x] s = some (rowD (alongR ps r ks), s) := by
  rw [call_py (f := 18) rfl, ← (lalong_eq ks L hk).1]
  have := L.small
  exact lalong_run _ _ n ps r.length (by omega) (fun r' i s h1 h3 h4 h5 => t17 k n ps r' i s h1 (by omega) h4 h5) x ks hx r s hk rfl L.pm hf
theorem t19 (k : Nat) (n : Int) (ps : List (Int × Int)) (R : List Int) (s : Sr) (L : Lin n ps R) : ∃ q s', callF tb 1000 (k + 3) 19 [.src, ordD n ps] s = some (rowD q, s') ∧ Lin n ps q ∧ s'.fz = s.fz := by
  have h := L.len
  subst h
  rw [call_py (f := 19) rfl]
  exact some_run _ _ (tOf k) (by decide) L s
theorem t20 (k : Nat) (n : Int) (ps : List (Int × Int)) (r : List Int) (s : Sr) (L : Lin n ps r) : callF tb 1000 (k + 1) 20 [ordD n ps, rowD r] s = some (rowD (alongR ps r (upW r.length)), s) := by
  rw [call_py (f := 20) rfl]
  exact levac_run _ _ L s
theorem t5 (k : Nat) (n : Int) (ps : List (Int × Int)) (r : List Int) (s : Sr) (hn : n = r.length) (h1 : 0 < r.length) (h2 : r.length ≤ 1000) : callF tb 1000 (k + 4) 5 [ordD n ps, rowD r] s = some (rowD (demR ps r), s) := by
  rw [call_py (f := 5) rfl]
  exact demoted_run _ _ n ps r s hn h1 h2 (fun x ks s hx hk => t2 k n ps x ks r s hx hk h2)
theorem t6 (k : Nat) (n : Int) (ps : List (Int × Int)) (r : List Int) (m : Int) (s : Sr) (hn : n = r.length) (h1 : 0 < r.length) (h2 : r.length ≤ 1000) (hm : m.natAbs ≤ 1000) : callF tb 1000 (k + 5) 6 [ordD n ps, rowD r, .int m] s = some (rowD (oftenS ps (decide (0 < m)) r m.natAbs), s) := by
  rw [call_py (f := 6) rfl]
  exact often_run _ _ n ps r.length m h1 hm (fun r' s h => t4 (k + 2) n ps r' s (by omega) (by omega)) (fun r' s h => t5 k n ps r' s (by omega) (by omega) (by omega)) r s rfl
theorem t7 (k : Nat) (m : Nat) (s : Sr) (h1 : 1 ≤ m) (h2 : m ≤ 100) : callF tb 1000 (k + 1) 7 [.int m] s = some (.tup (natsD (upW m)), s) := by
  rw [call_py (f := 7) rfl]
  exact evac_sw _ _ m h1 h2 s
theorem t8 (k : Nat) (m : Nat) (s : Sr) (h1 : 1 ≤ m) (h2 : m ≤ 100) : callF tb 1000 (k + 2) 8 [.int m] s = some (.tup (natsD (downW m)), s) := by
  rw [call_py (f := 8) rfl]
  exact below_sw _ _ m h1 h2 (fun s => t7 k m s h1 h2) s
theorem t9 (k : Nat) (n : Int) (ps : List (Int × Int)) (r : List Int) (s : Sr) (hn : n = r.length) (h1 : 0 < r.length) (h2 : r.length ≤ 100) : callF tb 1000 (k + 4) 9 [ordD n ps, rowD r] s = some (rowD (alongR ps r (upW r.length)), s) := by
  rw [call_py (f := 9) rfl]
  exact evacd_run _ _ n ps r hn (fun s => by rw [hn]; exact t7 (k + 2) _ s h1 h2) (fun s => t2 k n ps _ _ r s rfl (fun k hk => upW_ok hk) (by omega)) s
theorem t10 (k : Nat) (n : Int) (ps : List (Int × Int)) (r : List Int) (s : Sr) (hn : n = r.length) (h1 : 0 < r.length) (h2 : r.length ≤ 100) : callF tb 1000 (k + 4) 10 [ordD n ps, rowD r] s = some (rowD (alongR ps r (downW r.length)), s) := by
  rw [call_py (f := 10) rfl]
  exact evacb_run _ _ n ps r hn (fun s => by rw [hn]; exact t8 (k + 1) _ s h1 h2) (fun s => t2 k n ps _ _ r s rfl (fun k hk => downW_ok hk) (by omega)) s
theorem t15 (k : Nat) (most : Int) (s : Sr) (h1 : 1 ≤ most) (h2 : most ≤ 100) : ∃ n ps R s', callF tb 1000 (k + 3) 15 [.src, .int most] s = some (.tup [ordD n ps, rowD R], s') ∧ OrdOk n ps R ∧ (R.length : Int) ≤ most ∧ s'.fz = s.fz := by
  rw [call_py (f := 15) rfl]
  exact order_run _ _ (tPick (k + 1)) (tMix k) most h1 h2 s
theorem tCF (k : Nat) : CF (callF tb 1000 (k + 5)) where
  c4 n ps r s h1 h2 := t4 (k + 3) n ps r s h1 (by omega)
  c5 n ps r s h1 h2 h3 := t5 (k + 1) n ps r s h1 h2 (by omega)
  c6 n ps r m s h1 h2 h3 h4 := t6 k n ps r m s h1 h2 (by omega) h4
  c7 m s h1 h2 := t7 (k + 4) m s h1 h2
  c8 m s h1 h2 := t8 (k + 3) m s h1 h2
  c9 n ps r s h1 h2 h3 := t9 (k + 1) n ps r s h1 h2 h3
  c10 n ps r s h1 h2 h3 := t10 (k + 1) n ps r s h1 h2 h3
  c13 := tOf (k + 3)
  c15 most s h1 h2 := t15 (k + 2) most s h1 h2
  c16 n ps r s h1 h2 := t16 (k + 4) n ps r s h1 h2
  c18 n ps r x ks s L h1 h2 h3 := t18 (k + 2) n ps r x ks s L h1 h2 h3
  c19 n ps R s L := t19 (k + 2) n ps R s L
  c20 n ps r s L := t20 (k + 4) n ps r s L
theorem plain : Plain true 60 1000 := fun s hs => law_plain _ _ (tCF 55) s hs
end Toy
end
open PySem PySem.W PyProof.Rows
set_option maxRecDepth 100000 in
set_option maxHeartbeats 0 in
theorem PySem.Challenge.cw_ordersround_k76_whole_lists_evacuated_holds : PySem.Challenge.rw_ordersround_k76_whole_lists_evacuated.Holds := by
  w_on; o_law; k_head; (case hw => w_witness2)
  k_fill
  refine Rf.walkG (l := PySem.Challenge.rw_ordersround_k76_whole_lists_evacuated) (n := 63) (k := 61) (x := "script") (sp := Rf.spLaw 63) rfl (by decide) rfl ⟨rfl, by decide, by decide⟩ (fun w h Y => by first | exact PySem.W.kIn_of Y | exact PySem.W.km_in_of Y) ?F (fun K H a ns hl _ hS => ⟨a, ns, rfl, hS, hl, fun _ => rfl⟩)
  case F =>
    intro w mg fa h KX G hmg
    refine Toy.all_mk KX G hmg ?_ Toy.plain
    refine' Toy.Facts.mk ?d1 ?d2 ?d3 ?d4 ?d5 ?d6 ?d7 ?d8 ?d9 ?d10 ?d11 ?d13 ?d14 ?d15 ?d16 ?d17 ?d18 ?d19 ?d20 ?d21 ?d22 ?d23 ?z_abs ?z_dict ?z_enumerate ?z_int ?z_len ?z_list ?z_min ?z_range ?z_repr ?z_sorted ?z_tuple
    (case d1 => refine' Toy.DefAt.mk' ?a ?l ?c ?k; (case a => k_is); (case l => k_is); (case c => k_is); (case k => k_is))
    (case d2 => refine' Toy.DefAt.mk' ?a ?l ?c ?k; (case a => k_is); (case l => k_is); (case c => k_is); (case k => k_is))
    (case d3 => refine' Toy.DefAt.mk' ?a ?l ?c ?k; (case a => k_is); (case l => k_is); (case c => k_is); (case k => k_is))
    (case d4 => refine' Toy.DefAt.mk' ?a ?l ?c ?k; (case a => k_is); (case l => k_is); (case c => k_is); (case k => k_is))
    (case d5 => refine' Toy.DefAt.mk' ?a ?l ?c ?k; (case a => k_is); (case l => k_is); (case c => k_is); (case k => k_is))
    (case d6 => refine' Toy.DefAt.mk' ?a ?l ?c ?k; (case a => k_is); (case l => k_is); (case c => k_is); (case k => k_is))
    (case d7 => refine' Toy.DefAt.mk' ?a ?l ?c ?k; (case a => k_is); (case l => k_is); (case c => k_is); (case k => k_is))
    (case d8 => refine' Toy.DefAt.mk' ?a ?l ?c ?k; (case a => k_is); (case l => k_is); (case c => k_is); (case k => k_is))
    (case d9 => refine' Toy.DefAt.mk' ?a ?l ?c ?k; (case a => k_is); (case l => k_is); (case c => k_is); (case k => k_is))
    (case d10 => refine' Toy.DefAt.mk' ?a ?l ?c ?k; (case a => k_is); (case l => k_is); (case c => k_is); (case k => k_is))
    (case d11 => refine' Toy.DefAt.mk' ?a ?l ?c ?k; (case a => k_is); (case l => k_is); (case c => k_is); (case k => k_is))
    (case d13 => refine' Toy.DefAt.mk' ?a ?l ?c ?k; (case a => k_is); (case l => k_is); (case c => k_is); (case k => k_is))
    (case d14 => refine' Toy.DefAt.mk' ?a ?l ?c ?k; (case a => k_is); (case l => k_is); (case c => k_is); (case k => k_is))
    (case d15 => refine' Toy.DefAt.mk' ?a ?l ?c ?k; (case a => k_is); (case l => k_is); (case c => k_is); (case k => k_is))
    (case d16 => refine' Toy.DefAt.mk' ?a ?l ?c ?k; (case a => k_is); (case l => k_is); (case c => k_is); (case k => k_is))
    (case d17 => refine' Toy.DefAt.mk' ?a ?l ?c ?k; (case a => k_is); (case l => k_is); (case c => k_is); (case k => k_is))
    (case d18 => refine' Toy.DefAt.mk' ?a ?l ?c ?k; (case a => k_is); (case l => k_is); (case c => k_is); (case k => k_is))
    (case d19 => refine' Toy.DefAt.mk' ?a ?l ?c ?k; (case a => k_is); (case l => k_is); (case c => k_is); (case k => k_is))
    (case d20 => refine' Toy.DefAt.mk' ?a ?l ?c ?k; (case a => k_is); (case l => k_is); (case c => k_is); (case k => k_is))
    (case d21 => refine' Toy.DefAt.mk' ?a ?l ?c ?k; (case a => k_is); (case l => k_is); (case c => k_is); (case k => k_is))
    (case d22 => refine' Toy.DefAt.mk' ?a ?l ?c ?k; (case a => k_is); (case l => k_is); (case c => k_is); (case k => k_is))
    (case d23 => refine' Toy.DefAt.mk' ?a ?l ?c ?k; (case a => k_is); (case l => k_is); (case c => k_is); (case k => k_is))
    (case z_abs => k_is)
    (case z_dict => k_is)
    (case z_enumerate => k_is)
    (case z_int => k_is)
    (case z_len => k_is)
    (case z_list => k_is)
    (case z_min => k_is)
    (case z_range => k_is)
    (case z_repr => k_is)
    (case z_sorted => k_is)
    (case z_tuple => k_is)
