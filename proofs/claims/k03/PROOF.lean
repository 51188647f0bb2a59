import PyProof.Rows.All
import Wide.All
import OpenK.AllK
import Wide.FinOn
import HandS.ForMost
import HandS.Wide
import HandS.TupAny
import HandS.Style
import HandS.Deep
import HandS.IsInst
import HandS.Exc
import KE.GoesEnum
import KE.KDictKeyed
import KE.KDictPairs
import KE.KeyNested
import HandS.TupMul
import HandS.Replace
import HandS.Iter
import HandS.Zip
import HandS.Words
import HandS.Conv
import HandS.Defaults
import HandS.Ends
import HandS.HeadEnd
import HandS.Head0
import HandS.Head1
import HandS.Head2
import HandS.HeadHook1
import HandS.HeadHook2
import PySem.Challenge.RW_pocketkeys_k03_whole_all_rows_below_the
section
set_option linter.all false
set_option autoImplicit false
/-! PkIr: data by value, a small IR for the program's defs, and its evaluator. Plain Lean, no program in sight. -/
namespace PK

/-- data, by value: None, a bool, an int, a text (its codes), a tuple, a list, a dict (keys, values), an instance (its class, its attributes) -/
inductive D where
  | non
  | bl (b : Bool)
  | int (i : Int)
  | str (s : List Nat)
  | tup (xs : List D)
  | lst (xs : List D)
  | dct (ks vs : List D)
  | obj (c : Nat) (vs : List D)
  /-- a list that is read alone (the law's script) -/
  | scr (xs : List D)

/-- a result: a value, an exception (its class, what it bears), or nothing is said -/
inductive Res (α : Type) where
  | ok (a : α)
  | ex (c : Nat) (p : Option D)
  | bad
def Res.bind {α β : Type} : Res α → (α → Res β) → Res β
  | .ok a, f => f a
  | .ex c p, _ => .ex c p
  | .bad, _ => .bad
def Res.of {α : Type} : Option α → Res α
  | some a => .ok a
  | none => .bad

/-- how a name holds its value: frozen (never changed again), its own (a list or dict that this name alone holds), lent by the caller -/
inductive Ow where
  | f | o | io
  deriving DecidableEq
abbrev Slot := Option (Ow × D)
abbrev Env := List Slot
def at_ : Env → Nat → Slot
  | [], _ => none
  | a :: _, 0 => a
  | _ :: r, i + 1 => at_ r i
def put : Env → Nat → Slot → Env
  | [], _, _ => []
  | _ :: r, 0, x => x :: r
  | a :: r, i + 1, x => a :: put r i x
def wipeE : Env → List Nat → Env
  | e, [] => e
  | e, v :: vs => put (wipeE e vs) v none
/-- the slots vs as they stand in e0, the others as in e -/
def backE (e0 : Env) : Env → List Nat → Env
  | e, [] => e
  | e, v :: vs => put (backE e0 e vs) v (at_ e0 v)

/-! ### == -/
mutual
def eqD : D → D → Bool
  | .non, .non => true
  | .bl a, .bl b => a == b
  | .bl a, .int b => (if a then 1 else 0) == b
  | .int a, .bl b => a == (if b then 1 else 0)
  | .int a, .int b => a == b
  | .str a, .str b => a == b
  | .tup xs, .tup ys => eqDs xs ys
  | .lst xs, .lst ys => eqDs xs ys
  | _, _ => false
def eqDs : List D → List D → Bool
  | [], [] => true
  | x :: xs, y :: ys => eqD x y && eqDs xs ys
  | _, _ => false
end
mutual
/-- plain data (no dicts, no instances) nested at most n deep -/
def shal : Nat → D → Bool
  | _, .non => true
  | _, .bl _ => true
  | _, .int _ => true
  | _, .str s => s.all fun c => decide (c < 1114112)
  | n, .tup xs => match n with
    | 0 => false
    | m + 1 => shals m xs
  | n, .lst xs => match n with
    | 0 => false
    | m + 1 => shals m xs
  | _, .dct _ _ => false
  | _, .obj _ _ => false
  | _, .scr _ => false
def shals : Nat → List D → Bool
  | _, [] => true
  | n, x :: xs => shal n x && shals n xs
end

/-! ### operators -/
inductive Bop where
  | add | sub | mul | div | mod | pow
inductive Cop where
  | eq | ne | lt | le | gt | ge | is | isnt | in_ | notin
/-- the longest list, tuple, text -/
def line : Nat := 16777216
def mulOk (i j : Int) : Bool := decide (i.natAbs.log2 + j.natAbs.log2 < 134000000)
def powOk (i j : Int) : Bool := decide (0 ≤ j) && decide (j ≤ 1000000) && decide (i.natAbs < 18446744073709551616)
/-- n times a list -/
def repL {α : Type} (xs : List α) : Nat → List α
  | 0 => []
  | n + 1 => xs ++ repL xs n
def repOk (l : Nat) (k : Int) : Bool := decide (-9223372036854775808 ≤ k) && decide (k < 9223372036854775808) && decide (l * k.toNat ≤ line)
/-- a value, and whether it is a new list (or dict) of one's own -/
abbrev DF := D × Bool
def binD : Bop → D → D → Option DF
  | .add, .int i, .int j => some (.int (i + j), false)
  | .add, .str s, .str t => if s.length + t.length ≤ line then some (.str (s ++ t), false) else none
  | .add, .tup xs, .tup ys => if xs.length + ys.length ≤ line then some (.tup (xs ++ ys), false) else none
  | .add, .lst xs, .lst ys => if xs.length + ys.length ≤ line then some (.lst (xs ++ ys), true) else none
  | .sub, .int i, .int j => some (.int (i - j), false)
  | .mul, .int i, .int j => if mulOk i j then some (.int (i * j), false) else none
  | .mul, .lst xs, .int k => if repOk xs.length k then some (.lst (repL xs k.toNat), true) else none
  | .mul, .tup xs, .int k => if repOk xs.length k then some (.tup (repL xs k.toNat), false) else none
  | .mul, .str s, .int k => if repOk s.length k then some (.str (repL s k.toNat), false) else none
  | .div, .int i, .int j => if j = 0 then none else some (.int (i.fdiv j), false)
  | .mod, .int i, .int j => if j = 0 then none else some (.int (i.fmod j), false)
  | .pow, .int i, .int j => if powOk i j then some (.int (i ^ j.toNat), false) else none
  | _, _, _ => none
/-- one sign in a text -/
def inD : D → D → Option Bool
  | a, .lst xs => if shal 40 a && shals 40 xs then some (xs.any fun x => eqD x a) else none
  | a, .tup xs => if shal 40 a && shals 40 xs then some (xs.any fun x => eqD x a) else none
  | .str [c], .str t => some (t.contains c)
  | _, _ => none
def isD : D → D → Option Bool
  | .non, .non => some true
  | _, .non => some false
  | .bl a, .bl b => some (a == b)
  | _, _ => none
def ltStr : List Nat → List Nat → Bool
  | _, [] => false
  | [], _ :: _ => true
  | x :: xs, y :: ys => if x = y then ltStr xs ys else decide (x < y)
def cmpD : Cop → D → D → Option Bool
  | .eq, a, b => if shal 40 a && shal 40 b then some (eqD a b) else none
  | .ne, a, b => if shal 40 a && shal 40 b then some (!eqD a b) else none
  | .lt, .int i, .int j => some (decide (i < j))
  | .lt, .str s, .str t => some (ltStr s t)
  | .le, .int i, .int j => some (decide (i ≤ j))
  | .gt, .int i, .int j => some (decide (j < i))
  | .ge, .int i, .int j => some (decide (j ≤ i))
  | .is, a, b => isD a b
  | .isnt, a, b => (isD a b).map (!·)
  | .in_, a, b => inD a b
  | .notin, a, b => (inD a b).map (!·)
  | _, _, _ => none

/-- of whole numbers alone -/
def cmpI : Cop → D → D → Option Bool
  | .eq, .int i, .int j => some (decide (i = j))
  | .ne, .int i, .int j => some (!decide (i = j))
  | .lt, .int i, .int j => some (decide (i < j))
  | .le, .int i, .int j => some (decide (i ≤ j))
  | .gt, .int i, .int j => some (decide (j < i))
  | .ge, .int i, .int j => some (decide (j ≤ i))
  | _, _, _ => none

/-! ### places, slices -/
def ixZ (n : Nat) (i : Int) : Option Nat := if 0 ≤ i then (if i < n then some i.toNat else none) else if -(n : Int) ≤ i then some (i + n).toNat else none
def atZ {α : Type} (xs : List α) (i : Int) : Option α := (ixZ xs.length i).bind fun j => xs[j]?
def getK : List D → List D → D → Option D
  | k :: ks, v :: vs, x => if eqD k x then some v else getK ks vs x
  | _, _, _ => none
def putK : List D → List D → D → D → List D × List D
  | k :: ks, v :: vs, x, y => if eqD k x then (k :: ks, y :: vs) else (k :: (putK ks vs x y).1, v :: (putK ks vs x y).2)
  | _, _, x, y => ([x], [y])
mutual
/-- what a dict's key is made of, nested at most n deep -/
def keyB : Nat → D → Bool
  | _, .non => true
  | _, .bl _ => true
  | _, .int _ => true
  | _, .str _ => true
  | n, .tup xs => match n with
    | 0 => false
    | m + 1 => keysB m xs
  | _, .lst _ => false
  | _, .dct _ _ => false
  | _, .obj _ _ => false
  | _, .scr _ => false
def keysB : Nat → List D → Bool
  | _, [] => true
  | n, x :: xs => keyB n x && keysB n xs
end
/-- a dict's key: a tuple -/
def isKey : D → Bool
  | .tup xs => keyB 6 (.tup xs)
  | _ => false
/-- pairs of a key and a value -/
def pairsD : List D → Option (List (D × D))
  | [] => some []
  | .tup [k, v] :: r => if isKey k then (pairsD r).map ((k, v) :: ·) else none
  | _ :: _ => none
def mergeD : List (D × D) → List D × List D → List D × List D
  | [], s => s
  | (k, v) :: r, s => mergeD r (putK s.1 s.2 k v)
def ixD : D → D → Option D
  | .dct ks vs, k => if isKey k then getK ks vs k else none
  | .lst xs, .int i => atZ xs i
  | .scr xs, .int i => atZ xs i
  | .tup xs, .int i => atZ xs i
  | .str s, .int i => if s.length ≤ line then (atZ s i).map fun c => .str [c] else none
  | _, _ => none
def sIx (n d : Nat) : Option Int → Nat
  | none => d
  | some v => if v < 0 then (v + (n : Int)).toNat else min v.toNat n
def cut {α : Type} (xs : List α) (lo hi : Option Int) : List α := (xs.drop (sIx xs.length 0 lo)).take (sIx xs.length xs.length hi - sIx xs.length 0 lo)
def slD : D → Option Int → Option Int → Option DF
  | .lst xs, lo, hi => some (.lst (cut xs lo hi), true)
  | .tup xs, lo, hi => some (.tup (cut xs lo hi), false)
  | .str s, lo, hi => if s.length ≤ line then some (.str (cut s lo hi), false) else none
  | _, _, _ => none

/-! ### built-in functions -/
inductive Ty where
  | int | bool | str | tuple | list
inductive Bi where
  | len | abs | tuple | list | all | min2 | max2 | maxL | isi (t : Ty) | sorted | setLen | intOf | strOf | sum | range1 | dictOf
def isiD : Ty → D → Bool
  | .int, .int _ => true
  | .int, .bl _ => true
  | .bool, .bl _ => true
  | .str, .str _ => true
  | .tuple, .tup _ => true
  | .list, .lst _ => true
  | _, _ => false
def isiOk : D → Bool
  | .dct _ _ => false
  | .obj _ _ => false
  | .scr _ => false
  | _ => true
def boolsD : List D → Option (List Bool)
  | [] => some []
  | .bl b :: r => (boolsD r).map (b :: ·)
  | _ :: _ => none
def intsD : List D → Option (List Int)
  | [] => some []
  | .int i :: r => (intsD r).map (i :: ·)
  | _ :: _ => none
def maxI : Int → List Int → Int
  | m, [] => m
  | m, x :: r => maxI (if x > m then x else m) r
def rangeD (lo : Int) : Nat → List D
  | 0 => []
  | n + 1 => .int lo :: rangeD (lo + 1) n
def rngOk (i : Int) : Bool := decide (-4611686018427387904 ≤ i) && decide (i < 4611686018427387904)
def biD : Bi → List D → Option DF
  | .len, [.lst xs] => some (.int xs.length, false)
  | .len, [.scr xs] => some (.int xs.length, false)
  | .len, [.tup xs] => some (.int xs.length, false)
  | .len, [.str s] => if s.length ≤ line then some (.int s.length, false) else none
  | .abs, [.int i] => some (.int (if i < 0 then -i else i), false)
  | .tuple, [.lst xs] => some (.tup xs, false)
  | .tuple, [.tup xs] => some (.tup xs, false)
  | .list, [.lst xs] => some (.lst xs, true)
  | .list, [.tup xs] => some (.lst xs, true)
  | .all, [.lst xs] => (boolsD xs).map fun bs => (.bl (bs.all id), false)
  | .min2, [.int i, .int j] => some (.int (if j < i then j else i), false)
  | .max2, [.int i, .int j] => some (.int (if j > i then j else i), false)
  | .maxL, [.lst xs] => match intsD xs with
    | some (i :: r) => some (.int (maxI i r), false)
    | _ => none
  | .isi t, [d] => if isiOk d then some (.bl (isiD t d), false) else none
  | .intOf, [.int i] => some (.int i, false)
  | .intOf, [.bl b] => some (.int (if b then 1 else 0), false)
  | .dictOf, [.lst ps] => (pairsD ps).map fun kvs => (.dct (mergeD kvs ([], [])).1 (mergeD kvs ([], [])).2, false)
  | .range1, [.int n] => if rngOk n && decide (n.toNat ≤ line) then some (.lst (rangeD 0 n.toNat), true) else none
  | _, _ => none

/-! ### methods of built-in types -/
inductive Mt where
  | index | join | split | startswith | rjust
def idxD (c : Nat) : List Nat → Nat → Option Nat
  | [], _ => none
  | x :: r, i => if x = c then some i else idxD c r (i + 1)
def idxL (y : D) : List D → Nat → Option Nat
  | [], _ => none
  | x :: r, i => if eqD x y then some i else idxL y r (i + 1)
def strsD : List D → Option (List (List Nat))
  | [] => some []
  | .str s :: r => (strsD r).map (s :: ·)
  | _ :: _ => none
def joinN (sep : List Nat) : List (List Nat) → List Nat
  | [] => []
  | s :: r => s ++ r.flatMap fun t => sep ++ t
def sumLen : List (List Nat) → Nat
  | [] => 0
  | s :: r => s.length + sumLen r
def mtD : Mt → D → List D → Option DF
  | .index, .str s, [.str [c]] => (idxD c s 0).map fun (i : Nat) => (.int i, false)
  | .index, .lst xs, [y] => if shal 40 y && shals 40 xs then (idxL y xs 0).map fun (i : Nat) => (.int i, false) else none
  | .join, .str s, [.lst xs] => match strsD xs with
    | some ss => if sumLen ss + ss.length * s.length ≤ line then some (.str (joinN s ss), false) else none
    | none => none
  | _, _, _ => none

/-- what kind of receiver it is -/
def knd : D → Nat
  | .str _ => 1
  | .lst _ => 2
  | _ => 0
/-! ### the IR -/
/-- what is assigned to -/
inductive Tg where
  | nm (i : Nat)
  | tp (ts : List Tg)
mutual
def Tg.slots : Tg → List Nat
  | .nm i => [i]
  | .tp ts => slotsL ts
def slotsL : List Tg → List Nat
  | [] => []
  | t :: ts => t.slots ++ slotsL ts
end
inductive X where
  | v (i : Nat)
  | c (d : D)
  | bin (o : Bop) (a b : X)
  | neg (a : X)
  | not (a : X)
  | and (a b : X)
  | or (a b : X)
  | cmp (o : Cop) (a b : X)
  | chain (o p : Cop) (a b c : X)
  | ite (c a b : X)
  | tup (es : List X)
  | lst (es : List X)
  | ix (a b : X)
  | sl (a lo hi : X)
  | no
  | call (f : Nat) (es : List X)
  | bi (f : Bi) (es : List X)
  | mt (m : Mt) (o : X) (es : List X)
  | comp (t : Tg) (it : X) (ifs : List X) (e : X)
  | rng (es : List X)
  | zip (a b : X)
  | enum (a : X)
  | dict0
  | dictOf (a : X)
  | dict1 (k v : X)
  | fld (a : X) (f : Nat)
  | meth (o : X) (m : Nat) (es : List X)
  | make (c : Nat) (es : List X)
inductive S where
  | set (t : Tg) (e : X)
  | par (is : List Nat) (es : List X)
  | setIx (i : Nat) (k e : X)
  | app (i : Nat) (e : X)
  | ex (e : X)
  | ret (e : X)
  | iff (c : X) (a b : List S)
  | whl (c : X) (b : List S)
  | fr (t : Tg) (it : X) (b : List S)
  | pass
  | brk
  | cnt
  | raise (c : Nat) (es : List X)
  | setF (f : Nat) (e : X)
structure Def where
  /-- the first parameter is lent -/
  io : Bool
  /-- how many parameters, how many names -/
  np : Nat
  n : Nat
  body : List S

/-! ### the evaluator -/
/-- what the defs do (the value, whether it is new, the lent argument behind the call), which of them borrow -/
structure Gl where
  F : Nat → List D → Res (D × Bool × D)
  io : Nat → Bool
  flds : Nat → List Nat
  meth : Nat → Nat → Option Nat
  init : Nat → Nat
/-- an operand: a value, or a name, read when all operands are there -/
abbrev Op := D ⊕ Nat
def readO (o : Op) (env : Env) : Res D := match o with
  | .inl d => .ok d
  | .inr i => match at_ env i with
    | some (_, d) => .ok d
    | none => .bad
def tst : D → Res Bool
  | .bl b => .ok b
  | _ => .bad
mutual
def asg : Tg → D → Bool → Env → Res Env
  | .nm i, d, fr, env => .ok (put env i (some (if fr then .o else .f, d)))
  | .tp ts, d, fr, env => match d with
    | .tup xs => asgL ts xs env
    | _ => .bad
def asgL : List Tg → List D → Env → Res Env
  | [], [], env => .ok env
  | t :: ts, d :: ds, env => (asg t d false env).bind fun env => asgL ts ds env
  | _, _, _ => .bad
end
/-- a comprehension's turns -/
def compL (vs : List Nat) (ft : D → Env → Res Env) (fi : Env → Res (Bool × Env)) (fe : Env → Res (DF × Env)) : List D → Env → Res (List D × Env)
  | [], env => .ok ([], env)
  | d :: ds, env => (ft d env).bind fun env => (fi env).bind fun r => match r with
    | (true, env) => (fe env).bind fun r => (compL vs ft fi fe ds (wipeE r.2 vs)).bind fun q => .ok (r.1.1 :: q.1, q.2)
    | (false, env) => compL vs ft fi fe ds (wipeE env vs)
def noEx {α : Type} : Res α → Res α
  | .ok a => .ok a
  | _ => .bad
def items : D → Res (List D)
  | .lst xs => .ok xs
  | .tup xs => .ok xs
  | .str s => .ok (s.map fun c => .str [c])
  | _ => .bad
def zipD : List D → List D → List D
  | a :: r, b :: q => .tup [a, b] :: zipD r q
  | _, _ => []
def enumD (i : Int) : List D → List D
  | [] => []
  | a :: r => .tup [.int i, a] :: enumD (i + 1) r
def isName : X → Option Nat
  | .v i => some i
  | _ => none
def isNo : X → Bool
  | .no => true
  | _ => false
/-- a slice's part -/
def optI (x : X) (d : D) : Res (Option Int) := match isNo x, d with
  | true, _ => .ok none
  | false, .int i => .ok (some i)
  | _, _ => .bad
/-- how an operand is read: a name stays as it is -/
def opd (x : X) (ev : Env → Res (DF × Env)) (env : Env) : Res (Op × Env) := match isName x with
  | some i => match at_ env i with
    | some _ => .ok (.inr i, env)
    | none => .bad
  | none => (ev env).bind fun r => .ok (.inl r.1.1, r.2)
def readOs : List Op → Env → Res (List D)
  | [], _ => .ok []
  | o :: os, env => (readO o env).bind fun d => (readOs os env).bind fun ds => .ok (d :: ds)
/-- a call's end -/
def backIo (i : Nat) (env : Env) (r : D × Bool × D) : Res (DF × Env) := match at_ env i with
  | some (k, _) => .ok ((r.1, r.2.1), put env i (some (k, r.2.2)))
  | none => .bad
def callIo (G : Gl) (f i : Nat) (ds : List D) (env : Env) : Res (DF × Env) := match at_ env i with
  | some (.f, _) => .bad
  | some (_, d) => (G.F f (d :: ds)).bind fun q => backIo i env q
  | none => .bad
def name1 : List X → Option Nat
  | [] => none
  | a :: _ => isName a
/-- a name's value that goes somewhere: its own list is frozen -/
def useV (i : Nat) (env : Env) : Res (DF × Env) := match at_ env i with
  | some (.f, d) => .ok ((d, false), env)
  | some (.o, d) => .ok ((d, false), put env i (some (.f, d)))
  | _ => .bad
variable (G : Gl)
mutual
/-- a value that goes somewhere -/
def evX : X → Env → Res (DF × Env)
  | .v i, env => useV i env
  | .c d, env => .ok ((d, false), env)
  | .bin o a b, env => (opd a (fun e => evX a e) env).bind fun x => (opd b (fun e => evX b e) x.2).bind fun y => (readO x.1 y.2).bind fun p => (readO y.1 y.2).bind fun q => (Res.of (binD o p q)).bind fun r => .ok (r, y.2)
  | .neg a, env => (evX a env).bind fun x => match x.1.1 with
    | .int i => .ok ((.int (-i), false), x.2)
    | _ => .bad
  | .not a, env => (evX a env).bind fun x => (tst x.1.1).bind fun b => .ok ((.bl (!b), false), x.2)
  | .and a b, env => (evX a env).bind fun x => (tst x.1.1).bind fun t => match t with
    | true => evX b x.2
    | false => .ok ((.bl false, false), x.2)
  | .or a b, env => (evX a env).bind fun x => (tst x.1.1).bind fun t => match t with
    | true => .ok ((.bl true, false), x.2)
    | false => evX b x.2
  | .cmp o a b, env => (opd a (fun e => evX a e) env).bind fun x => (opd b (fun e => evX b e) x.2).bind fun y => (readO x.1 y.2).bind fun p => (readO y.1 y.2).bind fun q => (Res.of (cmpD o p q)).bind fun r => .ok ((.bl r, false), y.2)
  | .chain o p a b c, env => (evX a env).bind fun x => (evX b x.2).bind fun y => (Res.of (cmpI o x.1.1 y.1.1)).bind fun r => match r with
    | true => (evX c y.2).bind fun z => (Res.of (cmpI p y.1.1 z.1.1)).bind fun r => .ok ((.bl r, false), z.2)
    | false => .ok ((.bl false, false), y.2)
  | .ite c a b, env => (evX c env).bind fun x => (tst x.1.1).bind fun t => match t with
    | true => evX a x.2
    | false => evX b x.2
  | .tup es, env => (evXs es env).bind fun r => if r.1.length ≤ line then .ok ((.tup r.1, false), r.2) else .bad
  | .lst es, env => (evXs es env).bind fun r => if r.1.length ≤ line then .ok ((.lst r.1, true), r.2) else .bad
  | .ix a b, env => (opd a (fun e => evX a e) env).bind fun x => (opd b (fun e => evX b e) x.2).bind fun y => (readO x.1 y.2).bind fun p => (readO y.1 y.2).bind fun q => (Res.of (ixD p q)).bind fun r => .ok ((r, false), y.2)
  | .sl a lo hi, env => (opd a (fun e => evX a e) env).bind fun x => (evX lo x.2).bind fun l => (evX hi l.2).bind fun h => (readO x.1 h.2).bind fun p =>
      (optI lo l.1.1).bind fun i => (optI hi h.1.1).bind fun j => (Res.of (slD p i j)).bind fun r => .ok (r, h.2)
  | .no, env => .ok ((.non, false), env)
  | .call f es, env => match G.io f with
    | false => (evXs es env).bind fun r => (G.F f r.1).bind fun q => .ok ((q.1, q.2.1), r.2)
    | true => match name1 es with
      | some i => (match at_ env i with
        | some _ => (evXt es env).bind fun r => callIo G f i r.1 r.2
        | none => .bad)
      | none => .bad
  | .bi f es, env => (evOs es env).bind fun r => (readOs r.1 r.2).bind fun ds => (Res.of (biD f ds)).bind fun q => .ok (q, r.2)
  | .mt m o es, env => (opd o (fun e => evX o e) env).bind fun x => (readO x.1 x.2).bind fun p0 => (evOs es x.2).bind fun r => (readO x.1 r.2).bind fun p => (readOs r.1 r.2).bind fun ds =>
      if knd p0 = knd p then (Res.of (mtD m p ds)).bind fun q => .ok (q, r.2) else .bad
  | .comp t it ifs e, env => (evX it env).bind fun r => (items r.1.1).bind fun ds =>
      (noEx (compL t.slots (fun d e => asg t d false e) (fun e => evTs ifs e) (fun e' => evX e e') ds (wipeE r.2 t.slots))).bind fun q =>
        if q.1.length ≤ line then .ok ((.lst q.1, true), backE r.2 q.2 t.slots) else .bad
  | .rng es, env => (evXs es env).bind fun r => match r.1 with
    | [.int n] => if rngOk n then .ok ((.lst (rangeD 0 n.toNat), true), r.2) else .bad
    | [.int a, .int b] => if rngOk a && rngOk b then .ok ((.lst (rangeD a (b - a).toNat), true), r.2) else .bad
    | _ => .bad
  | .zip a b, env => (evX a env).bind fun x => (evX b x.2).bind fun y => (items x.1.1).bind fun xs => (items y.1.1).bind fun ys => .ok ((.lst (zipD xs ys), true), y.2)
  | .enum a, env => (evX a env).bind fun x => (items x.1.1).bind fun xs => .ok ((.lst (enumD 0 xs), true), x.2)
  | .dict0, env => .ok ((.dct [] [], true), env)
  | .dictOf _, _ => .bad
  | .dict1 _ _, _ => .bad
  | .fld _ _, _ => .bad
  | .meth _ _ _, _ => .bad
  | .make _ _, _ => .bad
def evXs : List X → Env → Res (List D × Env)
  | [], env => .ok ([], env)
  | x :: xs, env => (evX x env).bind fun r => (evXs xs r.2).bind fun q => .ok (r.1.1 :: q.1, q.2)
/-- all but the first -/
def evXt : List X → Env → Res (List D × Env)
  | [], _ => .bad
  | _ :: xs, env => evXs xs env
def evOs : List X → Env → Res (List Op × Env)
  | [], env => .ok ([], env)
  | x :: xs, env => (opd x (fun e => evX x e) env).bind fun r => (evOs xs r.2).bind fun q => .ok (r.1 :: q.1, q.2)
def evTs : List X → Env → Res (Bool × Env)
  | [], env => .ok (true, env)
  | x :: xs, env => (evX x env).bind fun r => (tst r.1.1).bind fun b => match b with
    | true => evTs xs r.2
    | false => .ok (false, r.2)
end

/-! ### statements -/
inductive Out where
  | nx (env : Env)
  | rt (d : D) (fr : Bool) (env : Env)
  | bk (env : Env)
  | ct (env : Env)
/-- what follows a statement -/
def Res.seq (r : Res Out) (k : Env → Res Out) : Res Out := r.bind fun o => match o with
  | .nx env => k env
  | o => .ok o
def forL (ft : D → Env → Res Env) (fb : Env → Res Out) : List D → Env → Res Out
  | [], env => .ok (.nx env)
  | d :: ds, env => (ft d env).bind fun env => (fb env).bind fun o => match o with
    | .nx env => forL ft fb ds env
    | .ct env => forL ft fb ds env
    | .bk env => .ok (.nx env)
    | .rt d f env => .ok (.rt d f env)
/-- at most n turns of a while -/
def whlN (fc : Env → Res (Bool × Env)) (fb : Env → Res Out) : Nat → Env → Res Out
  | 0, _ => .bad
  | n + 1, env => (fc env).bind fun r => match r with
    | (false, env) => .ok (.nx env)
    | (true, env) => (fb env).bind fun o => match o with
      | .nx env => whlN fc fb n env
      | .ct env => whlN fc fb n env
      | .bk env => .ok (.nx env)
      | .rt d f env => .ok (.rt d f env)
open Classical in
/-- a while: what it comes to if it ends -/
noncomputable def whl (fc : Env → Res (Bool × Env)) (fb : Env → Res Out) (env : Env) : Res Out :=
  if h : ∃ o n, whlN fc fb n env = .ok o then .ok h.choose else .bad
def parL : List Nat → List DF → Env → Res Env
  | [], [], env => .ok env
  | i :: is, d :: ds, env => parL is ds (put env i (some (if d.2 then .o else .f, d.1)))
  | _, _, _ => .bad
def setD : D → D → D → Option D
  | .lst xs, .int i, v => (ixZ xs.length i).map fun j => .lst (xs.set j v)
  | _, _, _ => none
def appD : D → D → Option D
  | .lst xs, v => if xs.length < line then some (.lst (xs ++ [v])) else none
  | _, _ => none
/-- a change of what a name holds by itself -/
def chgE (i : Nat) (g : D → Option D) (env : Env) : Res Env := match at_ env i with
  | some (.f, _) => .bad
  | some (k, d) => (Res.of (g d)).bind fun d => .ok (put env i (some (k, d)))
  | none => .bad
/-- a value handed back: a name's own list goes as new -/
def retX (x : X) (ev : Env → Res (DF × Env)) (env : Env) : Res Out := match isName x with
  | some i => match at_ env i with
    | some (.f, d) => .ok (.rt d false env)
    | some (.o, d) => .ok (.rt d true env)
    | _ => .bad
  | none => (ev env).bind fun r => .ok (.rt r.1.1 r.1.2 r.2)
/-- values side by side, each with its newness -/
def evPs : List X → Env → Res (List DF × Env)
  | [], env => .ok ([], env)
  | x :: xs, env => (evX G x env).bind fun r => (evPs xs r.2).bind fun q => .ok (r.1 :: q.1, q.2)
mutual
noncomputable def evS : S → Env → Res Out
  | .set t e, env => (evX G e env).bind fun r => (asg t r.1.1 r.1.2 r.2).bind fun env => .ok (.nx env)
  | .par is es, env => (evPs G es env).bind fun r => if r.1.length ≤ line then (parL is r.1 r.2).bind fun env => .ok (.nx env) else .bad
  | .setIx i k e, env => (evX G e env).bind fun r => match at_ r.2 i with
    | some _ => (evX G k r.2).bind fun q => (chgE i (fun d => setD d q.1.1 r.1.1) q.2).bind fun env => .ok (.nx env)
    | none => .bad
  | .app i e, env => match at_ env i with
    | some (_, d0) => (evX G e env).bind fun r => if knd d0 = 2 then (chgE i (fun d => appD d r.1.1) r.2).bind fun env => .ok (.nx env) else .bad
    | none => .bad
  | .ex e, env => (evX G e env).bind fun r => .ok (.nx r.2)
  | .ret e, env => retX e (fun x => evX G e x) env
  | .iff c a b, env => (evX G c env).bind fun x => (tst x.1.1).bind fun t => match t with
    | true => evSs a x.2
    | false => evSs b x.2
  | .whl c b, env => whl (fun e => (evX G c e).bind fun x => (tst x.1.1).bind fun t => .ok (t, x.2)) (fun e => evSs b e) env
  | .fr t it b, env => (evX G it env).bind fun r => (items r.1.1).bind fun ds => forL (fun d e => asg t d false e) (fun e => evSs b e) ds r.2
  | .pass, env => .ok (.nx env)
  | .brk, env => .ok (.bk env)
  | .cnt, env => .ok (.ct env)
  | .raise _ _, _ => .bad
  | .setF _ _, _ => .bad
noncomputable def evSs : List S → Env → Res Out
  | [], env => .ok (.nx env)
  | s :: ss, env => (evS s env).seq fun env => evSs ss env
end

/-! ### defs -/
def start (df : Def) (ds : List D) : Env :=
  (match df.io, ds with
    | true, d :: r => some (.io, d) :: r.map fun d => some (.f, d)
    | _, ds => ds.map fun d => some (.f, d)) ++ List.replicate (df.n - df.np) none
def lent (df : Def) (env : Env) : Res D := match df.io, at_ env 0 with
  | true, some (.io, d) => .ok d
  | true, _ => .bad
  | false, _ => .ok .non
noncomputable def run (df : Def) (ds : List D) : Res (D × Bool × D) :=
  if ds.length = df.np then
    (evSs G df.body (start df ds)).bind fun o => match o with
      | .rt d fr env => (lent df env).bind fun l => .ok (d, fr, l)
      | .nx env => (lent df env).bind fun l => .ok (.non, false, l)
      | _ => .bad
  else .bad

/-- the defs by their numbers; how they hang on one another is told by levels -/
structure Tab where
  body : Nat → Option Def
  flds : Nat → List Nat
  meth : Nat → Nat → Option Nat
  init : Nat → Nat
def Tab.io (T : Tab) (f : Nat) : Bool := match T.body f with
  | some d => d.io
  | none => false
noncomputable def Tab.sem (T : Tab) : Nat → Nat → List D → Res (D × Bool × D)
  | 0, _, _ => .bad
  | n + 1, f, ds => match T.body f with
    | some df => run ⟨T.sem n, T.io, T.flds, T.meth, T.init⟩ df ds
    | none => .bad
noncomputable abbrev Tab.gl (T : Tab) (n : Nat) : Gl := ⟨T.sem n, T.io, T.flds, T.meth, T.init⟩
theorem Tab.sem_succ (T : Tab) (n f : Nat) (df : Def) (ds : List D) (h : T.body f = some df) : T.sem (n + 1) f ds = run (T.gl n) df ds := by
  rw [Tab.sem, h]
end PK
end
section
set_option Elab.async false
set_option linter.all false
set_option maxRecDepth 100000
/-! PkRep: how data lies in the hand layer's heap; what a step may change. -/
namespace PK
open PySem PySem.Spec PyProof.Rows L2

/-- what representation leans on: the written part, where the classes stand, their attributes' names -/
structure RCx where
  P : Program
  w : World
  K : PySem.W.Frag
  cls : Nat → Addr
  fld : Nat → Str
  flds : Nat → List Nat
def strV (s : List Nat) : V := .str ⟨s.toArray⟩
mutual
/-- a key, as the library has it -/
def nk : D → NestedKey
  | .bl b => .num (if b then 1 else 0)
  | .int i => .num i
  | .str s => .text ⟨s.toArray⟩
  | .tup xs => .tup (nks xs)
  | .non => .none
  | .lst _ => .none
  | .dct _ _ => .none
  | .obj _ _ => .none
  | .scr _ => .none
def nks : List D → List NestedKey
  | [] => []
  | x :: xs => nk x :: nks xs
end
/-- a dict's entries: a key, where its tuple stands, the value -/
abbrev Ent := NestedKey × Addr × Value
/-- the dict at a has these entries -/
def DictAt (P : Program) (w : World) (a : Addr) (xs : List Ent) (h : Heap) : Prop :=
  (a == sysModules) = false ∧ xs.length ≤ sizeLine ∧ ∃ o es ep, h.get? a = some o ∧ o.ExactDict ∧ o.data = .dict es ep ∧ es.toList = xs.map (entryOfKey (nestedKind P w)) ∧ (xs.map (·.1)).Nodup
def DO (R : RCx) (a : Addr) (xs : List Ent) : HO := .ext (DictAt R.P R.w a xs)
/-- an instance's attributes by name -/
def fsOf (R : RCx) (c : Nat) (us : List V) : List (Str × V) := ((R.flds c).map R.fld).zip us
mutual
/-- in the frozen heap F the value v is the data d -/
def Rep (R : RCx) (F : Hp) : D → V → Prop
  | .non, v => v = .non
  | .bl b, v => v = .bl b
  | .int i, v => v = .int i
  | .str s, v => v = strV s
  | .tup ds, v => ∃ a vs, v = .ref a ∧ SqT R.K F a vs ∧ RepL R F ds vs
  | .lst ds, v => ∃ a vs, v = .ref a ∧ F a = some (.lst vs) ∧ RepL R F ds vs
  | .dct ks ds, v => ∃ a xs us, v = .ref a ∧ F a = some (DO R a xs) ∧ RepL R F ks (xs.map fun x : Ent => V.ref x.2.1) ∧ ks.map nk = xs.map (·.1) ∧ ks.all isKey = true ∧ RepL R F ds us ∧ Vals us (xs.map (·.2.2))
  | .obj c ds, v => ∃ a dx us, v = .ref a ∧ F a = some (.ins (R.cls c) dx (fsOf R c us)) ∧ ds.length = (R.flds c).length ∧ RepL R F ds us
  | .scr ds, v => ∃ a vs, v = .ref a ∧ SqL R.K F a vs ∧ RepL R F ds vs
def RepL (R : RCx) (F : Hp) : List D → List V → Prop
  | [], vs => vs = []
  | d :: ds, vs => ∃ v vs', vs = v :: vs' ∧ Rep R F d v ∧ RepL R F ds vs'
end
/-- the object o is the data d: a list, a dict, an instance that a name may hold by itself -/
def CRep (R : RCx) (F : Hp) (o : HO) : D → Prop
  | .lst ds => ∃ vs, o = .lst vs ∧ RepL R F ds vs
  | .obj c ds => ∃ dx us, o = .ins (R.cls c) dx (fsOf R c us) ∧ ds.length = (R.flds c).length ∧ RepL R F ds us
  | _ => False
/-- the frozen heap grows -/
def Le (F F' : Hp) : Prop := ∀ a o, F a = some o → F' a = some o
theorem Le.refl (F : Hp) : Le F F := fun _ _ h => h
theorem Le.trans {F G H : Hp} (a : Le F G) (b : Le G H) : Le F H := fun c o h => b c o (a c o h)
theorem Le.upd {F : Hp} {p : Addr} {o : HO} (h : F p = none) : Le F (upd F p o) := fun a u e => by
  rw [upd_ne (ne_of_none e h)]; exact e
theorem Le.sqT {K : PySem.W.Frag} {F F' : Hp} {a : Addr} {xs : List V} (l : Le F F') (h : SqT K F a xs) : SqT K F' a xs := by
  rcases h with (h | ⟨o, h⟩) | h
  · exact .inl (.inl (l _ _ h))
  · exact .inl (.inr ⟨o, l _ _ h⟩)
  · exact .inr h
theorem Le.sqL {K : PySem.W.Frag} {F F' : Hp} {a : Addr} {xs : List V} (l : Le F F') (h : SqL K F a xs) : SqL K F' a xs := by
  rcases h with (h | ⟨o, h⟩) | h
  · exact .inl (.inl (l _ _ h))
  · exact .inl (.inr ⟨o, l _ _ h⟩)
  · exact .inr h
theorem Le.rd {F F' : Hp} {a : Addr} {u : HO} (l : Le F F') (h : Rd F a u) : Rd F' a u := by
  rcases h with h | ⟨o, h⟩
  · exact .inl (l _ _ h)
  · exact .inr ⟨o, l _ _ h⟩
mutual
theorem Rep.mono {R : RCx} {F F' : Hp} (l : Le F F') : ∀ {d : D} {v : V}, Rep R F d v → Rep R F' d v
  | .non, _, h => h
  | .bl _, _, h => h
  | .int _, _, h => h
  | .str _, _, h => h
  | .tup ds, _, h => by
    unfold Rep at h ⊢
    obtain ⟨a, vs, e, q, r⟩ := h
    exact ⟨a, vs, e, l.sqT q, RepL.mono l r⟩
  | .lst ds, _, h => by
    unfold Rep at h ⊢
    obtain ⟨a, vs, e, q, r⟩ := h
    exact ⟨a, vs, e, l _ _ q, RepL.mono l r⟩
  | .dct ks ds, _, h => by
    unfold Rep at h ⊢
    obtain ⟨a, xs, us, e, q, k, n, b, r, t⟩ := h
    exact ⟨a, xs, us, e, l _ _ q, RepL.mono l k, n, b, RepL.mono l r, t⟩
  | .obj c ds, _, h => by
    unfold Rep at h ⊢
    obtain ⟨a, dx, us, e, q, k, r⟩ := h
    exact ⟨a, dx, us, e, l _ _ q, k, RepL.mono l r⟩
  | .scr ds, _, h => by
    unfold Rep at h ⊢
    obtain ⟨a, vs, e, q, r⟩ := h
    exact ⟨a, vs, e, l.sqL q, RepL.mono l r⟩
theorem RepL.mono {R : RCx} {F F' : Hp} (l : Le F F') : ∀ {ds : List D} {vs : List V}, RepL R F ds vs → RepL R F' ds vs
  | [], _, h => h
  | d :: ds, _, h => by
    unfold RepL at h ⊢
    obtain ⟨v, vs', e, r, q⟩ := h
    exact ⟨v, vs', e, Rep.mono l r, RepL.mono l q⟩
end
theorem CRep.mono {R : RCx} {F F' : Hp} {o : HO} (l : Le F F') : ∀ {d : D}, CRep R F o d → CRep R F' o d
  | .lst _, ⟨vs, e, r⟩ => ⟨vs, e, r.mono l⟩
  | .obj _ _, ⟨dx, us, e, n, r⟩ => ⟨dx, us, e, n, r.mono l⟩
/-- an owned object frozen -/
theorem CRep.rep {R : RCx} {F : Hp} {o : HO} {a : Addr} (h : F a = some o) : ∀ {d : D}, CRep R F o d → Rep R F d (.ref a)
  | .lst _, ⟨vs, e, r⟩ => by
    unfold Rep
    subst e
    exact ⟨a, vs, rfl, h, r⟩
  | .obj _ _, ⟨dx, us, e, n, r⟩ => by
    unfold Rep
    subst e
    exact ⟨a, dx, us, rfl, h, n, r⟩
theorem RepL.length {R : RCx} {F : Hp} : ∀ {ds : List D} {vs : List V}, RepL R F ds vs → vs.length = ds.length
  | [], _, h => by
    unfold RepL at h; subst h; rfl
  | d :: ds, _, h => by
    unfold RepL at h
    obtain ⟨v, vs', e, _, q⟩ := h
    subst e
    simp [RepL.length q]
theorem RepL.append {R : RCx} {F : Hp} : ∀ {ds es : List D} {vs us : List V}, RepL R F ds vs → RepL R F es us → RepL R F (ds ++ es) (vs ++ us)
  | [], _, _, _, h, q => by
    unfold RepL at h; subst h; exact q
  | d :: ds, es, _, us, h, q => by
    unfold RepL at h
    obtain ⟨v, vs', e, r, t⟩ := h
    subst e
    show RepL R F (d :: (ds ++ es)) (v :: (vs' ++ us))
    unfold RepL
    exact ⟨v, vs' ++ us, rfl, r, RepL.append t q⟩
theorem RepL.get {R : RCx} {F : Hp} : ∀ {ds : List D} {vs : List V} {i : Nat} {d : D}, RepL R F ds vs → ds[i]? = some d → ∃ v, vs[i]? = some v ∧ Rep R F d v
  | [], _, _, _, _, e => by simp at e
  | d :: ds, _, 0, x, h, e => by
    unfold RepL at h
    obtain ⟨v, vs', e', r, t⟩ := h
    subst e'
    simp at e
    subst e
    exact ⟨v, rfl, r⟩
  | d :: ds, _, i + 1, x, h, e => by
    unfold RepL at h
    obtain ⟨v, vs', e', r, t⟩ := h
    subst e'
    obtain ⟨u, h1, h2⟩ := RepL.get (i := i) t (by simpa using e)
    exact ⟨u, by simpa using h1, h2⟩
theorem RepL.take {R : RCx} {F : Hp} : ∀ {ds : List D} {vs : List V} (n : Nat), RepL R F ds vs → RepL R F (ds.take n) (vs.take n)
  | _, _, 0, _ => by simp [RepL]
  | [], _, n + 1, h => by
    unfold RepL at h; subst h; simp [RepL]
  | d :: ds, _, n + 1, h => by
    unfold RepL at h
    obtain ⟨v, vs', e, r, t⟩ := h
    subst e
    show RepL R F (d :: ds.take n) (v :: vs'.take n)
    unfold RepL
    exact ⟨v, _, rfl, r, RepL.take n t⟩
theorem RepL.drop {R : RCx} {F : Hp} : ∀ {ds : List D} {vs : List V} (n : Nat), RepL R F ds vs → RepL R F (ds.drop n) (vs.drop n)
  | _, _, 0, h => h
  | [], _, n + 1, h => by
    unfold RepL at h; subst h; simp [RepL]
  | d :: ds, _, n + 1, h => by
    unfold RepL at h
    obtain ⟨v, vs', e, r, t⟩ := h
    subst e
    exact RepL.drop n t
theorem RepL.set {R : RCx} {F : Hp} {d : D} {v : V} (r : Rep R F d v) : ∀ {ds : List D} {vs : List V} (i : Nat), RepL R F ds vs → RepL R F (ds.set i d) (vs.set i v)
  | [], _, _, h => by
    unfold RepL at h; subst h; simp [RepL]
  | x :: ds, _, 0, h => by
    unfold RepL at h
    obtain ⟨u, vs', e, _, t⟩ := h
    subst e
    show RepL R F (d :: ds) (v :: vs')
    unfold RepL
    exact ⟨v, vs', rfl, r, t⟩
  | x :: ds, _, i + 1, h => by
    unfold RepL at h
    obtain ⟨u, vs', e, q, t⟩ := h
    subst e
    show RepL R F (x :: ds.set i d) (u :: vs'.set i v)
    unfold RepL
    exact ⟨u, _, rfl, q, RepL.set r i t⟩

/-! ### names -/
/-- how a name's slot lies -/
def SlotOk (R : RCx) (F H : Hp) : Ow → D → V → Prop
  | .f, d, v => Rep R F d v
  | _, d, v => ∃ a o, v = .ref a ∧ F a = none ∧ H a = some o ∧ CRep R F o d
/-- the address a is held by a name alone -/
def Own (σ : L2.St) (env : Env) (a : Addr) : Prop := ∃ i k d, at_ env i = some (k, d) ∧ k ≠ .f ∧ σ[i]? = some (some (.ref a))
structure SRep (R : RCx) (F H : Hp) (σ : L2.St) (env : Env) : Prop where
  le : Le F H
  len : env.length ≤ σ.length
  get : ∀ i k d, at_ env i = some (k, d) → ∃ v, σ[i]? = some (some v) ∧ SlotOk R F H k d v
  inj : ∀ i j k l d e a, at_ env i = some (k, d) → k ≠ .f → at_ env j = some (l, e) → l ≠ .f → σ[i]? = some (some (.ref a)) → σ[j]? = some (some (.ref a)) → i = j
/-- what a step may do: the frozen heap grows by new objects and by such as were held; what is neither stays -/
structure Fr (O O' : Addr → Prop) (F H F' H' : Hp) : Prop where
  mono : Le F F'
  keep : ∀ a o, H a = some o → ¬ O a → H' a = some o
  new : ∀ a o, F' a = some o → F a = some o ∨ H a = none ∨ O a
  own : ∀ a, O' a → O a ∨ H a = none
  live : ∀ a o, H a = some o → ∃ o', H' a = some o'
theorem Fr.refl {O O' : Addr → Prop} {F H : Hp} (h : ∀ a, O' a → O a) : Fr O O' F H F H := ⟨Le.refl F, fun _ _ e _ => e, fun _ _ e => .inl e, fun a x => .inl (h a x), fun _ o e => ⟨o, e⟩⟩
theorem Fr.trans {O O1 O2 : Addr → Prop} {F H F1 H1 F2 H2 : Hp} (a : Fr O O1 F H F1 H1) (b : Fr O1 O2 F1 H1 F2 H2) : Fr O O2 F H F2 H2 where
  mono := a.mono.trans b.mono
  keep := fun c o e n => b.keep c o (a.keep c o e n) fun z => (a.own c z).elim n fun z => by rw [e] at z; cases z
  new := fun c o e => by
    rcases b.new c o e with z | z | z
    · exact a.new c o z
    · cases q : H c with
      | none => exact .inr (.inl rfl)
      | some u =>
        obtain ⟨u', e'⟩ := a.live c u q
        rw [e'] at z; cases z
    · exact .inr ((a.own c z).elim .inr .inl)
  own := fun c z => by
    rcases b.own c z with z | z
    · exact a.own c z
    · cases q : H c with
      | none => exact .inr rfl
      | some u =>
        obtain ⟨u', e'⟩ := a.live c u q
        rw [e'] at z; cases z
  live := fun c o e => by
    obtain ⟨o', e'⟩ := a.live c o e
    exact b.live c o' e'

/-! ### slots by place -/
theorem at_put_same : ∀ {env : Env} {i : Nat} {x : Slot}, i < env.length → at_ (put env i x) i = x
  | [], _, _, h => by simp at h
  | _ :: r, 0, x, _ => rfl
  | _ :: r, i + 1, x, h => at_put_same (env := r) (by simpa using h)
theorem at_put_ne : ∀ {env : Env} {i j : Nat} {x : Slot}, i ≠ j → at_ (put env i x) j = at_ env j
  | [], _, _, _, _ => rfl
  | _ :: r, 0, 0, x, h => absurd rfl h
  | _ :: r, 0, j + 1, x, h => rfl
  | _ :: r, i + 1, 0, x, h => rfl
  | _ :: r, i + 1, j + 1, x, h => at_put_ne (env := r) (fun e => h (by rw [e]))
theorem put_length : ∀ {env : Env} {i : Nat} {x : Slot}, (put env i x).length = env.length
  | [], _, _ => rfl
  | _ :: r, 0, x => rfl
  | _ :: r, i + 1, x => by simp [put, put_length (env := r)]
theorem at_lt : ∀ {env : Env} {i : Nat} {x : Ow × D}, at_ env i = some x → i < env.length
  | [], _, _, h => by simp [at_] at h
  | _ :: r, 0, _, _ => by simp
  | _ :: r, i + 1, x, h => by
    have := at_lt (env := r) (i := i) h
    simpa using this
theorem at_put : ∀ {env : Env} {i j : Nat} {x : Slot} {y : Ow × D}, at_ (put env i x) j = some y → (i = j ∧ x = some y) ∨ (i ≠ j ∧ at_ env j = some y) := fun {env i j x y} h => by
  by_cases e : i = j
  · subst e
    have := at_lt h
    rw [put_length] at this
    rw [at_put_same this] at h
    exact .inl ⟨rfl, h⟩
  · rw [at_put_ne e] at h
    exact .inr ⟨e, h⟩
end PK
end
section
set_option Elab.async false
set_option linter.all false
set_option maxRecDepth 100000
set_option maxHeartbeats 4000000
/-! PkOps: the operators over represented data. -/
namespace PK
open PySem PySem.Spec PyProof.Rows L2

/-- a value that is read: frozen, or held by itself -/
def RdR (R : RCx) (F H : Hp) (d : D) (v : V) : Prop := Rep R F d v ∨ ∃ a o, v = .ref a ∧ F a = none ∧ H a = some o ∧ CRep R F o d
theorem RdR.lst {R : RCx} {F H : Hp} {ds : List D} {v : V} (l : Le F H) (h : RdR R F H (.lst ds) v) : ∃ a vs, v = .ref a ∧ H a = some (.lst vs) ∧ RepL R F ds vs := by
  rcases h with h | ⟨a, o, e, _, ho, vs, eo, r⟩
  · unfold Rep at h
    obtain ⟨a, vs, e, q, r⟩ := h
    exact ⟨a, vs, e, l _ _ q, r⟩
  · subst eo
    exact ⟨a, vs, e, ho, r⟩
theorem RdR.tup {R : RCx} {F H : Hp} {ds : List D} {v : V} (l : Le F H) (h : RdR R F H (.tup ds) v) : ∃ a vs, v = .ref a ∧ SqT R.K H a vs ∧ RepL R F ds vs := by
  rcases h with h | ⟨a, o, e, _, ho, q⟩
  · unfold Rep at h
    obtain ⟨a, vs, e, q, r⟩ := h
    exact ⟨a, vs, e, l.sqT q, r⟩
  · exact q.elim
theorem RdR.scr {R : RCx} {F H : Hp} {ds : List D} {v : V} (l : Le F H) (h : RdR R F H (.scr ds) v) : ∃ a vs, v = .ref a ∧ SqL R.K H a vs ∧ RepL R F ds vs := by
  rcases h with h | ⟨a, o, e, _, ho, q⟩
  · unfold Rep at h
    obtain ⟨a, vs, e, q, r⟩ := h
    exact ⟨a, vs, e, l.sqL q, r⟩
  · exact q.elim
theorem RdR.tupF {R : RCx} {F H : Hp} {ds : List D} {v : V} (h : RdR R F H (.tup ds) v) : Rep R F (.tup ds) v := by
  rcases h with h | ⟨a, o, e, _, ho, q⟩
  · exact h
  · exact q.elim
theorem RdR.int {R : RCx} {F H : Hp} {i : Int} {v : V} (h : RdR R F H (.int i) v) : v = .int i := by
  rcases h with h | ⟨a, o, e, _, ho, q⟩
  · exact h
  · exact q.elim
theorem RdR.bl {R : RCx} {F H : Hp} {i : Bool} {v : V} (h : RdR R F H (.bl i) v) : v = .bl i := by
  rcases h with h | ⟨a, o, e, _, ho, q⟩
  · exact h
  · exact q.elim
theorem RdR.non {R : RCx} {F H : Hp} {v : V} (h : RdR R F H .non v) : v = .non := by
  rcases h with h | ⟨a, o, e, _, ho, q⟩
  · exact h
  · exact q.elim
theorem RdR.str {R : RCx} {F H : Hp} {s : List Nat} {v : V} (h : RdR R F H (.str s) v) : v = strV s := by
  rcases h with h | ⟨a, o, e, _, ho, q⟩
  · exact h
  · exact q.elim
theorem RdR.step {R : RCx} {F H F' H' : Hp} {d : D} {v : V} (h : RdR R F H d v) (m : Le F F') (k : ∀ a o, v = .ref a → F a = none → H a = some o → (F' a = none ∨ F' a = some o) ∧ H' a = some o) : RdR R F' H' d v := by
  rcases h with h | ⟨a, o, e, f, ho, q⟩
  · exact .inl (h.mono m)
  · obtain ⟨k1, k2⟩ := k a o e f ho
    rcases k1 with k1 | k1
    · exact .inr ⟨a, o, e, k1, k2, q.mono m⟩
    · exact .inl (by rw [e]; exact (q.mono m).rep k1)

/-! ### a step that makes at most something new -/
structure PSt (F H F' H' : Hp) : Prop where
  mono : Le F F'
  keep : Le H H'
  new : ∀ a o, F' a = some o → F a = some o ∨ H a = none
  le : Le F' H'
theorem PSt.refl {F H : Hp} (l : Le F H) : PSt F H F H := ⟨Le.refl F, Le.refl H, fun _ _ e => .inl e, l⟩
theorem Le.none {F H : Hp} {p : Addr} (l : Le F H) (h : H p = none) : F p = none := by
  cases e : F p with
  | none => rfl
  | some o => rw [l p o e] at h; cases h
/-- a new frozen object -/
theorem PSt.newF {F H : Hp} {p : Addr} {o : HO} (l : Le F H) (h : H p = none) : PSt F H (upd F p o) (upd H p o) where
  mono := Le.upd (l.none h)
  keep := Le.upd h
  new := fun a u e => by
    by_cases q : a = p
    · subst q; exact .inr h
    · rw [upd_ne q] at e; exact .inl e
  le := fun a u e => by
    by_cases q : a = p
    · subst q; rw [upd_same] at e ⊢; exact e
    · rw [upd_ne q] at e ⊢; exact l a u e
/-- a new object of one's own -/
theorem PSt.newO {F H : Hp} {p : Addr} {o : HO} (l : Le F H) (h : H p = none) : PSt F H F (upd H p o) where
  mono := Le.refl F
  keep := Le.upd h
  new := fun a u e => .inl e
  le := fun a u e => by rw [upd_ne (ne_of_none (l a u e) h)]; exact l a u e
theorem PSt.fr {F H F' H' : Hp} (p : PSt F H F' H') (O : Addr → Prop) : Fr O O F H F' H' where
  mono := p.mono
  keep := fun a o e _ => p.keep a o e
  new := fun a o e => (p.new a o e).elim .inl fun z => .inr (.inl z)
  own := fun a z => .inl z
  live := fun a o e => ⟨o, p.keep a o e⟩
/-- a value made: frozen, or new and held by nobody -/
def VOk (R : RCx) (H F' H' : Hp) (d : D) (fr : Bool) (v : V) : Prop := match fr with
  | false => Rep R F' d v
  | true => ∃ p o, v = .ref p ∧ F' p = none ∧ H' p = some o ∧ CRep R F' o d ∧ H p = none
theorem VOk.newT {R : RCx} {F H : Hp} {p : Addr} {ds : List D} {vs : List V} (l : Le F H) (h : H p = none) (r : RepL R F ds vs) : VOk R H (upd F p (.tup vs)) (upd H p (.tup vs)) (.tup ds) false (.ref p) := by
  show Rep R _ _ _
  unfold Rep
  exact ⟨p, vs, rfl, SqT.of upd_same, r.mono (Le.upd (l.none h))⟩
theorem VOk.newL {R : RCx} {F H : Hp} {p : Addr} {ds : List D} {vs : List V} (l : Le F H) (h : H p = none) (r : RepL R F ds vs) : VOk R H F (upd H p (.lst vs)) (.lst ds) true (.ref p) :=
  ⟨p, _, rfl, l.none h, upd_same, ⟨vs, rfl, r⟩, h⟩

section
variable {X : Cx} {pins : List (Addr × Obj)} {σ : L2.St} {H F : Hp} {s : Shared} {R : RCx}
theorem line_eq : line = sizeLine := by rw [sizeLine_eq]; rfl
theorem repL_flat {α : Type} (xs : List α) : ∀ n, repL xs n = (List.replicate n xs).flatten
  | 0 => rfl
  | n + 1 => by rw [repL, repL_flat xs n, List.replicate_succ, List.flatten_cons]
theorem RepL.rep {R : RCx} {F : Hp} {ds : List D} {vs : List V} (h : RepL R F ds vs) : ∀ n, RepL R F (repL ds n) (repL vs n)
  | 0 => by simp [repL, RepL]
  | n + 1 => by rw [repL, repL]; exact h.append (RepL.rep h n)
theorem repL_length {α : Type} (xs : List α) : ∀ n, (repL xs n).length = xs.length * n
  | 0 => by simp [repL]
  | n + 1 => by rw [repL, List.length_append, repL_length xs n, Nat.mul_succ, Nat.add_comm]

end

/-! ### tuples: * -/
section
open PySem.SeqAt
open PySem.AutoSeq1 (wpAny_loadPart')
open PySem.MeetsSeq PySem.MeetsSeq2 PySem.MeetsSeq3
theorem tuple_mulS (l : Addr) (items : Array Value) (n : Nat) (dd : Option Addr) (sl : Array (Option Value)) (x : Int) (u : Tok) (c0 : (decide (x < -(2 ^ 63)) || decide (x ≥ 2 ^ 63)) = false) (c1 : (items.isEmpty || x == 1) = true) :
    Meets (Builtin.«tuple.__mul__» ⟨[.ref l, .int x u], []⟩) (fun _ R s => s.heap.get? l = some { cls := .type "tuple", dict := dd, data := .seq items n, slots := sl } ∧ R (.ok (.ret (Value.ref l))) s) :=
  .of_wp fun prog w A R s h => by
    obtain ⟨hp, g, d, tk, os⟩ := s
    obtain ⟨hl, h⟩ := h
    have f1 := AutoSeq1.idx_int
    wp_walk using wpAny_loadPart' hl
    repeat (first
      | (refine wpAny_ite_false (decide_eq_false (by rw [c0]; exact Bool.false_ne_true)) ?_; wp_walk using wpAny_loadPart' hl)
      | (refine wpAny_ite_true (decide_eq_true c1) ?_; wp_walk using wpAny_loadPart' hl))
    exact ⟨_, rfl, h⟩
theorem tuple_mulN (l : Addr) (items : Array Value) (n : Nat) (dd : Option Addr) (sl : Array (Option Value)) (x : Int) (u : Tok) (c0 : (decide (x < -(2 ^ 63)) || decide (x ≥ 2 ^ 63)) = false) (c1 : (items.isEmpty || x == 1) = false) (c2 : (decide (x ≤ 0) || items.isEmpty) = true) :
    Meets (Builtin.«tuple.__mul__» ⟨[.ref l, .int x u], []⟩) (fun _ R s => s.heap.get? l = some { cls := .type "tuple", dict := dd, data := .seq items n, slots := sl } ∧
      R (.ok (.ret (Value.ref s.heap.objs.size))) { s with heap := s.heap.push { cls := Value.type "tuple", data := Data.seq #[] }, toks := s.toks }) :=
  .of_wp fun prog w A R s h => by
    obtain ⟨hp, g, d, tk, os⟩ := s
    obtain ⟨hl, h⟩ := h
    have f1 := AutoSeq1.idx_int
    wp_walk using wpAny_loadPart' hl
    repeat (first
      | (refine wpAny_ite_false (decide_eq_false (by rw [c0]; exact Bool.false_ne_true)) ?_; wp_walk using wpAny_loadPart' hl)
      | (refine wpAny_ite_false (decide_eq_false (by rw [c1]; exact Bool.false_ne_true)) ?_; wp_walk using wpAny_loadPart' hl)
      | (refine wpAny_ite_true (decide_eq_true c2) ?_; wp_walk using wpAny_loadPart' hl))
    exact ⟨_, rfl, h⟩
end
section
variable {X : Cx} {pins : List (Addr × Obj)} {σ : L2.St} {H F : Hp} {s : Shared} {R : RCx}
theorem mul_t {a : Addr} {xs : List V} {k : Int} {t : Tok} {Q : VK} (I : Inv X pins σ H s) (ha : SqT X.K H a xs) (h1 : -(2 ^ 63) ≤ k) (h2 : k < 2 ^ 63) (hz : xs.length * k.toNat ≤ sizeLine) (qs : repL xs k.toNat = xs → Q (.ref a) H) (q : ∀ p, H p = none → Q (.ref p) (upd H p (.tup (repL xs k.toNat)))) :
    wpAny (model X.prog X.w) X.A (binaryOp .Mult (.ref a) (.int k t)) (EP X pins σ Q) X.xe s := by
  obtain ⟨its, r, ⟨⟨cls, dd, data, sl⟩, ho, hc, n, hd⟩, hs⟩ := I.tuple ha
  simp only at hc hd
  subst hc hd
  have hle : its.length = xs.length := r.length.symm
  have c0 : (decide (k < -(2 ^ 63)) || decide (k ≥ 2 ^ 63)) = false := by
    rw [decide_eq_false (by omega), decide_eq_false (by omega)] <;> rfl
  by_cases c1 : (its.toArray.isEmpty || k == 1) = true
  · refine wpAny_binaryOp_repeat_ref (T := "tuple") (U := "int") (by decide) ⟨_, ho, rfl⟩ (fun s' => typeIs_int s' k t) noFill_tuple_mul F.fills_int_mul F.slot_int_rmul repeat_tuple F.slot_int_index.lookup
      (call_meets F.slot_int_rmul (typeIs_int s k t) F.entry_int_rmul (F.args_int_rmul_2 _ _) (int_rmul_tuple k t a its.toArray n dd sl)
        ⟨ho, rfl, ⟨_, ho, rfl⟩, call_meets F.slot_tuple_mul ⟨_, ho, rfl⟩ F.entry_tuple_mul (F.args_tuple_mul_2 _ _) (tuple_mulS a its.toArray n dd sl k t c0 c1) ⟨ho, ?_⟩⟩)
    refine ⟨.ref a, H, I, rfl, qs ?_⟩
    rw [Bool.or_eq_true] at c1
    rcases c1 with c1 | c1
    · have e : its = [] := by simpa using c1
      have e2 : xs = [] := by rw [e] at hle; exact List.eq_nil_of_length_eq_zero hle.symm
      subst e2
      have : ∀ m, repL ([] : List V) m = [] := fun m => by
        induction m with
        | zero => rfl
        | succ m ih => rw [repL, ih] <;> rfl
      exact this _
    · have e : k = 1 := by simpa using c1
      subst e
      show repL xs 1 = xs
      simp [repL]
  · have c1 : (its.toArray.isEmpty || k == 1) = false := by simpa using c1
    have c1e : its.toArray.isEmpty = false := by
      rw [Bool.or_eq_false_iff] at c1; exact c1.1
    by_cases c2 : (decide (k ≤ 0) || its.toArray.isEmpty) = true
    · refine wpAny_binaryOp_repeat_ref (T := "tuple") (U := "int") (by decide) ⟨_, ho, rfl⟩ (fun s' => typeIs_int s' k t) noFill_tuple_mul F.fills_int_mul F.slot_int_rmul repeat_tuple F.slot_int_index.lookup
        (call_meets F.slot_int_rmul (typeIs_int s k t) F.entry_int_rmul (F.args_int_rmul_2 _ _) (int_rmul_tuple k t a its.toArray n dd sl)
          ⟨ho, rfl, ⟨_, ho, rfl⟩, call_meets F.slot_tuple_mul ⟨_, ho, rfl⟩ F.entry_tuple_mul (F.args_tuple_mul_2 _ _) (tuple_mulN a its.toArray n dd sl k t c0 c1 c2) ⟨ho, ?_⟩⟩)
      have k0 : k ≤ 0 := by
        rw [c1e, Bool.or_false] at c2; exact of_decide_eq_true c2
      have e : repL xs k.toNat = [] := by
        rw [show k.toNat = 0 by omega] <;> rfl
      refine ⟨.ref s.heap.objs.size, _, I.laid (t' := s.toks) (o := .tup (repL xs k.toNat)) (fun b ob q => Heap.get?_push_of_some _ q) (Nat.le_refl _) ?_, rfl, q _ (I.hok.fresh (Nat.le_refl _))⟩
      rw [e]
      exact ⟨Nat.zero_le _, [], .nil, IsTup.new _ _⟩
    · have c2 : (decide (k ≤ 0) || its.toArray.isEmpty) = false := by simpa using c2
      have k0 : 0 < k := by
        rw [Bool.or_eq_false_iff] at c2
        have := of_decide_eq_false c2.1
        omega
      have hsz0 : its.toArray.size = xs.length := by rw [List.size_toArray, hle]
      have hm : ((its.toArray.size : Nat) : Int) * k ≤ sizeLine := by
        rw [hsz0]
        have e : k = ((k.toNat : Nat) : Int) := by omega
        rw [e]
        exact_mod_cast hz
      have flen : (List.replicate k.toNat its).flatten.length ≤ sizeLine := by
        rw [PyProof.Rows.lm_len_rep_flat, hle, Nat.mul_comm]; exact hz
      have c4 : Builtin.Tuple.tupleTooMany (((its.toArray.size : Nat) : Int) * k) = false := by
        unfold Builtin.Tuple.tupleTooMany
        exact decide_eq_false (by omega)
      have c3 : ¬ ((its.toArray.size : Nat) : Int) * k > (2 ^ 63 - 1) / 8 := by
        have : (sizeLine : Int) ≤ (2 ^ 63 - 1) / 8 := by rw [sizeLine_eq]; decide
        omega
      refine wpAny_binaryOp_repeat_ref (T := "tuple") (U := "int") (by decide) ⟨_, ho, rfl⟩ (fun s' => typeIs_int s' k t) noFill_tuple_mul F.fills_int_mul F.slot_int_rmul repeat_tuple F.slot_int_index.lookup
        (call_meets F.slot_int_rmul (typeIs_int s k t) F.entry_int_rmul (F.args_int_rmul_2 _ _) (int_rmul_tuple k t a its.toArray n dd sl)
          ⟨ho, rfl, ⟨_, ho, rfl⟩, call_meets F.slot_tuple_mul ⟨_, ho, rfl⟩ F.entry_tuple_mul (F.args_tuple_mul_2 _ _) (tuple_mulW a its.toArray n dd sl k t c0 c1 c2 c3 c4 (by rw [size_rep, List.size_toArray]; exact flen)) ⟨ho, ?_⟩⟩)
      rw [size_rep]
      refine ⟨.ref s.heap.objs.size, _, I.laid (t' := s.toks) (o := .tup (repL xs k.toNat)) (fun b ob q => Heap.get?_push_of_some _ q) (Nat.le_refl _) ?_, rfl, q _ (I.hok.fresh (Nat.le_refl _))⟩
      rw [repL_flat]
      exact ⟨by rw [PyProof.Rows.lm_len_rep_flat, Nat.mul_comm]; exact hz, _, r.rep k.toNat, IsTup.new _ _⟩

/-! ### // of any size -/
/-- what a division of great numbers asks of the run -/
structure Seer (X : Cx) : Prop where
  seer : X.base.NoSeer
  tree : X.prog.given.tree = none
  stk : ∃ env l, X.stack = env :: l ∧ env.scope.isGenerator = false ∧ env.scope.isCoroutine = false ∧ env.builtins = builtinsNs ∧ env.globals = mainGlobals
  dp : X.A.depth + Builtin.pylongFrames < recursionLimit
theorem Seer.room (S : Seer X) (I : Inv X pins σ H s) : PylongRoom (model X.prog X.w) X.A s := by
  obtain ⟨env, l, e, g, c, b, m⟩ := S.stk
  refine PylongRoom.of I.nolimit S.dp (SeerAt.of (env := env) (l := l) (S.seer.keeps I.bk) S.tree ?_ g c b m)
  rw [← e]
  exact I.ok.frames
end
end PK
end
section
set_option Elab.async false
set_option linter.all false
set_option maxRecDepth 100000
set_option maxHeartbeats 4000000
/-! PkBin: the binary operators over represented data. -/
namespace PK
open PySem PySem.Spec PyProof.Rows L2
def bopE : Bop → Operator
  | .add => .Add
  | .sub => .Sub
  | .mul => .Mult
  | .div => .FloorDiv
  | .mod => .Mod
  | .pow => .Pow
theorem mulOk_ok {i j : Int} (h : mulOk i j = true) : IntMulOk i j := by
  have b : ∀ x : Int, Builtin.Int.intBits x ≤ x.natAbs.log2 + 1 := fun x => by
    unfold Builtin.Int.intBits
    split <;> omega
  have h1 := b i
  have h2 := b j
  have h3 : i.natAbs.log2 + j.natAbs.log2 < 134000000 := of_decide_eq_true h
  have e : bitsLine = 134217728 := by decide
  unfold IntMulOk
  intro z
  rw [Bool.and_eq_true] at z
  have z2 := z.2
  unfold Builtin.Int.intTooBig at z2
  have z3 := of_decide_eq_true z2
  rw [e] at z3
  omega
theorem strV_rel {s : List Nat} {u : Value} (r : RelV (strV s) u) : ∃ t, u = .str ⟨s.toArray⟩ t := r
theorem strV_app (s t : List Nat) : V.str ((⟨s.toArray⟩ : Str) ++ (⟨t.toArray⟩ : Str)) = strV (s ++ t) := by
  show V.str ⟨s.toArray ++ t.toArray⟩ = V.str ⟨(s ++ t).toArray⟩
  simp
section
variable {X : Cx} {pins : List (Addr × Obj)} {σ : L2.St} {H F : Hp} {s : Shared} {R : RCx} {x y : V} {v u : Value} {dx dy : D} {Q : VK}
theorem mul_s {l : List Nat} {k : Int} {t t' : Tok} (I : Inv X pins σ H s) (h1 : -(2 ^ 63) ≤ k) (h2 : k < 2 ^ 63) (hz : l.length * k.toNat ≤ sizeLine) (q : Q (strV (repL l k.toNat)) H) :
    wpAny (model X.prog X.w) X.A (binaryOp .Mult (.str ⟨l.toArray⟩ t) (.int k t')) (EP X pins σ Q) X.xe s := by
  have hl : (⟨l.toArray⟩ : Str).length = l.length := by simp [Str.length]
  refine PySem.P.mul_str ?_ ?_ ?_ ?_
  · rw [decide_eq_false (by omega), decide_eq_false (by omega)] <;> rfl
  · intro a b c
    rw [hl] at b c
    rw [Bool.or_eq_false_iff] at b
    have b1 : k ≠ 1 := by simpa using b.1
    have b2 : l.length ≠ 0 := by simpa using b.2
    have z : (l.length : Int) * k ≤ sizeLine := by
      have e : k = ((k.toNat : Nat) : Int) := by omega
      rw [e]
      exact_mod_cast hz
    have z2 : (sizeLine : Int) ≤ 16777216 := by rw [sizeLine_eq]; decide
    have : (l.length : Int) ≤ (2 ^ 63 - 1) / k := by
      rw [Int.le_ediv_iff_mul_le (by omega)]
      omega
    omega
  · intro a b
    unfold Builtin.Str.tooLong
    rw [hl]
    exact decide_eq_false (by omega)
  · by_cases a : k < 1
    · rw [if_pos a]
      refine ⟨by decide, strV [], H, I.tok _, ⟨_, rfl⟩, ?_⟩
      have e : repL l k.toNat = [] := by rw [show k.toNat = 0 by omega] <;> rfl
      rw [e] at q
      exact q
    · rw [if_neg a]
      by_cases b : (k == 1 || (⟨l.toArray⟩ : Str).length == 0) = true
      · rw [if_pos b]
        refine ⟨strV l, H, I, ⟨_, rfl⟩, ?_⟩
        have e : repL l k.toNat = l := by
          rw [hl, Bool.or_eq_true] at b
          rcases b with b | b
          · have : k = 1 := by simpa using b
            subst this
            simp [repL]
          · have : l = [] := by simpa using b
            subst this
            have : ∀ m, repL ([] : List Nat) m = [] := fun m => by
              induction m with
              | zero => rfl
              | succ m ih => rw [repL, ih] <;> rfl
            exact this _
        rw [e] at q
        exact q
      · rw [if_neg b]
        have e : (List.replicate k.toNat l.toArray).foldl (· ++ ·) #[] = (repL l k.toNat).toArray := by
          have : ∀ (n : Nat) (acc : List Nat), List.foldl (fun x1 x2 => x1 ++ x2) acc.toArray (List.replicate n l.toArray) = (acc ++ repL l n).toArray := fun n => by
            induction n with
            | zero => intro acc; simp [repL]
            | succ n ih =>
              intro acc
              rw [List.replicate_succ, List.foldl_cons]
              have e1 : acc.toArray ++ l.toArray = (acc ++ l).toArray := by simp
              rw [e1, ih, repL, List.append_assoc]
          have := this k.toNat []
          simpa using this
        rw [e]
        refine ⟨?_, strV (repL l k.toNat), H, I.tok _, ⟨_, rfl⟩, q⟩
        show (repL l k.toNat).toArray.size ≤ _
        rw [List.size_toArray, repL_length]
        exact hz
theorem bin_ok {o : Bop} {r : DF} (S : Seer X) (hK : X.K = R.K) (I : Inv X pins σ H s) (l : Le F H) (rx : RelV x v) (ry : RelV y u) (px : RdR R F H dx x) (py : RdR R F H dy y) (e : binD o dx dy = some r)
    (q : ∀ z F' H', PSt F H F' H' → VOk R H F' H' r.1 r.2 z → Q z H') : wpAny (model X.prog X.w) X.A (binaryOp (bopE o) v u) (EP X pins σ Q) X.xe s := by
  have q0 : ∀ z, Rep R F r.1 z → r.2 = false → Q z H := fun z h1 h2 => q z F H (.refl l) (by rw [h2]; exact h1)
  cases o with
  | add =>
    cases dx with
    | int i =>
      cases dy with
      | int j =>
        cases px.int; cases py.int
        simp only [binD, Option.some.injEq] at e; subst e
        exact op_add pins s σ H _ _ v u Q I rx ry ⟨i, j, rfl, rfl, q0 _ rfl rfl⟩
      | _ => simp [binD] at e
    | str s1 =>
      cases dy with
      | str t1 =>
        cases px.str; cases py.str
        simp only [binD] at e
        split at e <;> cases e
        rename_i hz
        refine op_add_str pins s σ H _ _ v u Q I rx ry ⟨_, _, rfl, rfl, ?_, ?_⟩
        · rw [← line_eq]; simpa [Str.length] using hz
        · rw [strV_app]; exact q0 _ rfl rfl
      | _ => simp [binD] at e
    | tup xs =>
      cases dy with
      | tup ys =>
        simp only [binD] at e
        split at e <;> cases e
        rename_i hz
        obtain ⟨a, vs, rfl, ha, ra⟩ := px.tup l
        obtain ⟨b, us, rfl, hb, rb⟩ := py.tup l
        have l1 := ra.length
        have l2 := rb.length
        rw [← hK] at ha hb
        refine op_catA pins s σ H _ _ v u Q I rx ry ⟨a, b, vs, us, rfl, rfl, ha, hb, ?_, fun ex => ?_, fun _ ey => ?_, fun _ _ p hp => ?_⟩
        · rw [l1, l2, ← line_eq]; exact hz
        · have : xs = [] := by rw [ex] at l1; exact List.eq_nil_of_length_eq_zero l1.symm
          subst this
          exact q0 _ py.tupF rfl
        · have : ys = [] := by rw [ey] at l2; exact List.eq_nil_of_length_eq_zero l2.symm
          subst this
          refine q0 _ ?_ rfl
          simpa using px.tupF
        · exact q _ _ _ (.newF l hp) (.newT l hp (ra.append rb))
      | _ => simp [binD] at e
    | lst xs =>
      cases dy with
      | lst ys =>
        simp only [binD] at e
        split at e <;> cases e
        rename_i hz
        obtain ⟨a, vs, rfl, ha, ra⟩ := px.lst l
        obtain ⟨b, us, rfl, hb, rb⟩ := py.lst l
        have l1 := ra.length
        have l2 := rb.length
        exact op_cat pins s σ H _ _ v u Q I rx ry ⟨a, b, vs, us, rfl, rfl, ha, hb, by rw [l1, l2, ← line_eq]; exact hz, fun p hp => q _ _ _ (.newO l hp) (.newL l hp (ra.append rb))⟩
      | _ => simp [binD] at e
    | _ => simp [binD] at e
  | sub =>
    cases dx with
    | int i =>
      cases dy with
      | int j =>
        cases px.int; cases py.int
        simp only [binD, Option.some.injEq] at e; subst e
        exact op_sub pins s σ H _ _ v u Q I rx ry ⟨i, j, rfl, rfl, q0 _ rfl rfl⟩
      | _ => simp [binD] at e
    | _ => simp [binD] at e
  | mul =>
    cases dy with
    | int k =>
      cases dx with
      | int i =>
        cases px.int; cases py.int
        simp only [binD] at e
        split at e <;> cases e
        rename_i hz
        obtain ⟨t, rfl⟩ := rx
        obtain ⟨t', rfl⟩ := ry
        exact mul_int ⟨.int (i * k), H, I.tok _, ⟨_, rfl⟩, q0 _ rfl rfl⟩ (mulOk_ok hz)
      | lst xs =>
        cases py.int
        simp only [binD] at e
        split at e <;> cases e
        rename_i hz
        simp only [repOk, Bool.and_eq_true, decide_eq_true_eq] at hz
        obtain ⟨⟨h1, h2⟩, h3⟩ := hz
        obtain ⟨a, vs, rfl, ha, ra⟩ := px.lst l
        refine op_rep pins s σ H _ _ v u Q I rx ry ⟨a, k, vs, rfl, rfl, ha, by omega, by omega, by rw [ra.length, ← line_eq]; exact h3, fun p hp => ?_⟩
        rw [← repL_flat]
        exact q _ _ _ (.newO l hp) (.newL l hp (ra.rep _))
      | tup xs =>
        cases py.int
        simp only [binD] at e
        split at e <;> cases e
        rename_i hz
        simp only [repOk, Bool.and_eq_true, decide_eq_true_eq] at hz
        obtain ⟨⟨h1, h2⟩, h3⟩ := hz
        obtain ⟨a, vs, rfl, ha, ra⟩ := px.tup l
        cases rx
        obtain ⟨t', rfl⟩ := ry
        have lr := ra.length
        refine mul_t I (by rw [hK]; exact ha) (by omega) (by omega) (by rw [lr, ← line_eq]; exact h3) (fun es => ?_) fun p hp => q _ _ _ (.newF l hp) (.newT l hp (ra.rep _))
        have rr := ra.rep k.toNat
        rw [es] at rr
        refine q0 _ ?_ rfl
        show Rep R F (.tup _) _
        have pf := px.tupF
        unfold Rep at pf ⊢
        obtain ⟨a', vs', e', s', r'⟩ := pf
        cases e'
        exact ⟨a, vs', rfl, s', by
          have := r'.rep k.toNat
          have ev : vs' = vs := I.tuple_inj (by rw [hK]; exact l.sqT s') (by rw [hK]; exact ha)
          rw [ev] at this ⊢
          rw [es] at this
          exact this⟩
      | str s1 =>
        cases px.str; cases py.int
        simp only [binD] at e
        split at e <;> cases e
        rename_i hz
        simp only [repOk, Bool.and_eq_true, decide_eq_true_eq] at hz
        obtain ⟨⟨h1, h2⟩, h3⟩ := hz
        obtain ⟨t, rfl⟩ := rx
        obtain ⟨t', rfl⟩ := ry
        exact mul_s I (by omega) (by omega) (by rw [← line_eq]; exact h3) (q0 _ rfl rfl)
      | _ => simp [binD] at e
    | _ => cases dx <;> simp [binD] at e
  | div =>
    cases dx with
    | int i =>
      cases dy with
      | int j =>
        cases px.int; cases py.int
        simp only [binD] at e
        split at e <;> cases e
        rename_i hz
        obtain ⟨t, rfl⟩ := rx
        obtain ⟨t', rfl⟩ := ry
        exact floordiv_int hz ⟨.int (i.fdiv j), H, I.tok _, ⟨_, rfl⟩, q0 _ rfl rfl⟩ (.inr (S.room I))
      | _ => simp [binD] at e
    | _ => simp [binD] at e
  | mod =>
    cases dx with
    | int i =>
      cases dy with
      | int j =>
        cases px.int; cases py.int
        simp only [binD] at e
        split at e <;> cases e
        rename_i hz
        obtain ⟨t, rfl⟩ := rx
        obtain ⟨t', rfl⟩ := ry
        exact mod_int' hz ⟨.int (i.fmod j), H, I.tok _, ⟨_, rfl⟩, q0 _ rfl rfl⟩
      | _ => simp [binD] at e
    | _ => simp [binD] at e
  | pow =>
    cases dx with
    | int i =>
      cases dy with
      | int j =>
        cases px.int; cases py.int
        simp only [binD] at e
        split at e <;> cases e
        rename_i hz
        simp only [powOk, Bool.and_eq_true, decide_eq_true_eq] at hz
        obtain ⟨⟨h1, h2⟩, h3⟩ := hz
        exact op_pow pins s σ H _ _ v u Q I rx ry ⟨i, j, rfl, rfl, ⟨h1, h2, by omega⟩, q0 _ rfl rfl⟩
      | _ => simp [binD] at e
    | _ => simp [binD] at e
end
end PK
end
section
set_option Elab.async false
set_option linter.all false
set_option maxRecDepth 100000
set_option maxHeartbeats 4000000
/-! PkCmp: comparisons over represented data. -/
namespace PK
open PySem PySem.Spec PyProof.Rows L2
mutual
def toPd : D → PyData
  | .non => .none
  | .bl b => .bool b
  | .int i => .int i
  | .str s => .str ⟨s.toArray⟩
  | .tup xs => .tuple (toPds xs)
  | .lst xs => .list (toPds xs)
  | .dct _ _ => .none
  | .obj _ _ => .none
  | .scr _ => .none
def toPds : List D → List PyData
  | [] => []
  | d :: ds => toPd d :: toPds ds
end
mutual
theorem shal_lay : ∀ (n : Nat) (d : D), shal n d = true → (toPd d).canLay0 = true ∧ (toPd d).depth ≤ n
  | _, .non, _ => ⟨rfl, Nat.zero_le _⟩
  | _, .bl _, _ => ⟨rfl, Nat.zero_le _⟩
  | _, .int _, _ => ⟨rfl, Nat.zero_le _⟩
  | _, .str s, h => by
    refine ⟨?_, Nat.zero_le _⟩
    unfold shal at h
    show (toPd (.str s)).canLay0 = true
    unfold toPd PyData.canLay0 PyData.strOk
    rw [← Array.all_toList]
    exact h
  | n, .tup xs, h => by
    unfold shal at h
    cases n with
    | zero => cases h
    | succ m =>
      obtain ⟨h1, h2⟩ := shals_lay m xs h
      refine ⟨?_, ?_⟩
      · unfold toPd PyData.canLay0; exact h1
      · unfold toPd PyData.depth; omega
  | n, .lst xs, h => by
    unfold shal at h
    cases n with
    | zero => cases h
    | succ m =>
      obtain ⟨h1, h2⟩ := shals_lay m xs h
      refine ⟨?_, ?_⟩
      · unfold toPd PyData.canLay0; exact h1
      · unfold toPd PyData.depth; omega
  | _, .dct _ _, h => by unfold shal at h; cases h
  | _, .obj _ _, h => by unfold shal at h; cases h
  | _, .scr _, h => by unfold shal at h; cases h
theorem shals_lay : ∀ (n : Nat) (ds : List D), shals n ds = true → PyData.canLayAll0 (toPds ds) = true ∧ PyData.depthAll (toPds ds) ≤ n
  | _, [], _ => ⟨by unfold toPds; rfl, by unfold toPds PyData.depthAll; exact Nat.zero_le _⟩
  | n, d :: ds, h => by
    unfold shals at h
    rw [Bool.and_eq_true] at h
    obtain ⟨a1, a2⟩ := shal_lay n d h.1
    obtain ⟨b1, b2⟩ := shals_lay n ds h.2
    refine ⟨?_, ?_⟩
    · unfold toPds PyData.canLayAll0; rw [a1, b1] <;> rfl
    · unfold toPds PyData.depthAll; omega
end
theorem shal_shaped {d : D} (h : shal 40 d = true) : SeqAt.shaped (toPd d) = true := by
  obtain ⟨a, b⟩ := shal_lay 40 d h
  unfold SeqAt.shaped
  rw [a, Bool.true_and]
  exact decide_eq_true (by omega)
theorem str_beq (a b : List Nat) : ((⟨a.toArray⟩ : Str) == (⟨b.toArray⟩ : Str)) = (a == b) := by
  rw [Bool.eq_iff_iff]
  simp
mutual
theorem eqv_toPd : ∀ (n : Nat) (a b : D), shal n a = true → shal n b = true → PyData.eqv (toPd a) (toPd b) = eqD a b
  | n, .non, b, _, hb => by cases b <;> first | (simp only [toPd, PyData.eqv, eqD]; done) | (simp [shal] at hb; done) | (simp only [toPd, PyData.eqv, eqD]; rfl)
  | n, .bl x, b, _, hb => by cases b <;> first | (simp only [toPd, PyData.eqv, eqD]; done) | (simp [shal] at hb; done) | (simp only [toPd, PyData.eqv, eqD]; rfl)
  | n, .int x, b, _, hb => by cases b <;> first | (simp only [toPd, PyData.eqv, eqD]; done) | (simp [shal] at hb; done) | (simp only [toPd, PyData.eqv, eqD]; rfl)
  | n, .str x, b, _, hb => by
    cases b with
    | str y => simp only [toPd, PyData.eqv, eqD]; exact str_beq x y
    | dct _ _ => unfold shal at hb; cases hb
    | obj _ _ => unfold shal at hb; cases hb
    | scr _ => unfold shal at hb; cases hb
    | _ => simp only [toPd, PyData.eqv, eqD]
  | n, .tup xs, b, ha, hb => by
    cases b with
    | tup ys =>
      unfold shal at ha hb
      cases n with
      | zero => cases ha
      | succ m => simp only [toPd, PyData.eqv, eqD]; exact eqv_toPds m xs ys ha hb
    | dct _ _ => unfold shal at hb; cases hb
    | obj _ _ => unfold shal at hb; cases hb
    | scr _ => unfold shal at hb; cases hb
    | _ => simp only [toPd, PyData.eqv, eqD]
  | n, .lst xs, b, ha, hb => by
    cases b with
    | lst ys =>
      unfold shal at ha hb
      cases n with
      | zero => cases ha
      | succ m => simp only [toPd, PyData.eqv, eqD]; exact eqv_toPds m xs ys ha hb
    | dct _ _ => unfold shal at hb; cases hb
    | obj _ _ => unfold shal at hb; cases hb
    | scr _ => unfold shal at hb; cases hb
    | _ => simp only [toPd, PyData.eqv, eqD]
  | n, .dct _ _, _, ha, _ => by unfold shal at ha; cases ha
  | n, .obj _ _, _, ha, _ => by unfold shal at ha; cases ha
  | n, .scr _, _, ha, _ => by unfold shal at ha; cases ha
theorem eqv_toPds : ∀ (n : Nat) (a b : List D), shals n a = true → shals n b = true → PyData.eqvAll (toPds a) (toPds b) = eqDs a b
  | n, [], [], _, _ => by simp only [toPds, PyData.eqvAll, eqDs]
  | n, [], _ :: _, _, _ => by simp only [toPds, PyData.eqvAll, eqDs]
  | n, _ :: _, [], _, _ => by simp only [toPds, PyData.eqvAll, eqDs]
  | n, x :: xs, y :: ys, ha, hb => by
    unfold shals at ha hb
    rw [Bool.and_eq_true] at ha hb
    simp only [toPds, PyData.eqvAll, eqDs]
    rw [eqv_toPd n x y ha.1 hb.1, eqv_toPds n xs ys ha.2 hb.2]
end
mutual
theorem Rep.dp {R : RCx} {F H : Hp} (l : Le F H) : ∀ (n : Nat) (d : D) (v : V), shal n d = true → Rep R F d v → Dp R.K H v (toPd d)
  | _, .non, _, _, h => by unfold Rep at h; subst h; exact .non
  | _, .bl _, _, _, h => by unfold Rep at h; subst h; exact .bl _
  | _, .int _, _, _, h => by unfold Rep at h; subst h; exact .int _
  | _, .str _, _, _, h => by unfold Rep at h; subst h; exact .str _
  | n, .tup ds, _, hs, h => by
    unfold Rep at h
    unfold shal at hs
    obtain ⟨a, vs, e, q, r⟩ := h
    subst e
    cases n with
    | zero => cases hs
    | succ m => unfold toPd; exact .tup (l.sqT q) (RepL.dp l m ds vs hs r)
  | n, .lst ds, _, hs, h => by
    unfold Rep at h
    unfold shal at hs
    obtain ⟨a, vs, e, q, r⟩ := h
    subst e
    cases n with
    | zero => cases hs
    | succ m => unfold toPd; exact .lst (SqL.of (l _ _ q)) (RepL.dp l m ds vs hs r)
  | _, .dct _ _, _, hs, _ => by unfold shal at hs; cases hs
  | _, .obj _ _, _, hs, _ => by unfold shal at hs; cases hs
  | _, .scr _, _, hs, _ => by unfold shal at hs; cases hs
theorem RepL.dp {R : RCx} {F H : Hp} (l : Le F H) : ∀ (n : Nat) (ds : List D) (vs : List V), shals n ds = true → RepL R F ds vs → DpAll R.K H vs (toPds ds)
  | _, [], _, _, h => by unfold RepL at h; subst h; unfold toPds; exact .nil
  | n, d :: ds, _, hs, h => by
    unfold shals at hs
    rw [Bool.and_eq_true] at hs
    unfold RepL at h
    obtain ⟨v, vs', e, r, t⟩ := h
    subst e
    unfold toPds
    exact .cons (Rep.dp l n d v hs.1 r) (RepL.dp l n ds vs' hs.2 t)
end
theorem RdR.dp {R : RCx} {F H : Hp} (l : Le F H) {n : Nat} {d : D} {v : V} (hs : shal n d = true) (h : RdR R F H d v) : Dp R.K H v (toPd d) := by
  rcases h with h | ⟨a, o, e, f, ho, q⟩
  · exact h.dp l n d v hs
  · cases d with
    | lst ds =>
      obtain ⟨vs, eo, r⟩ := q
      subst eo e
      unfold shal at hs
      cases n with
      | zero => cases hs
      | succ m => unfold toPd; exact .lst (SqL.of ho) (RepL.dp l m ds vs hs r)
    | dct _ _ => unfold shal at hs; cases hs
    | obj _ _ => unfold shal at hs; cases hs
    | _ => exact q.elim
theorem toPds_map (ds : List D) : toPds ds = ds.map toPd := by
  induction ds with
  | nil => unfold toPds; rfl
  | cons d ds ih => unfold toPds; rw [ih, List.map_cons]
theorem shals_all {n : Nat} : ∀ {ds : List D}, shals n ds = true → ∀ d ∈ ds, shal n d = true
  | [], _, _, h => by cases h
  | d :: ds, h, x, hx => by
    unfold shals at h
    rw [Bool.and_eq_true] at h
    rcases List.mem_cons.mp hx with e | hx
    · subst e; exact h.1
    · exact shals_all h.2 x hx
theorem any_toPd {a : D} (ha : shal 40 a = true) : ∀ {ds : List D}, shals 40 ds = true → ((toPds ds).any fun z => PyData.eqv z (toPd a)) = ds.any fun x => eqD x a
  | [], _ => by unfold toPds; rfl
  | d :: ds, h => by
    unfold shals at h
    rw [Bool.and_eq_true] at h
    unfold toPds
    rw [List.any_cons, List.any_cons, eqv_toPd 40 d a h.1 ha, any_toPd ha h.2]
def copE : Cop → CmpOp
  | .eq => .Eq
  | .ne => .NotEq
  | .lt => .Lt
  | .le => .LtE
  | .gt => .Gt
  | .ge => .GtE
  | .is => .Is
  | .isnt => .IsNot
  | .in_ => .In
  | .notin => .NotIn
theorem ltStr_lt : ∀ (a b : List Nat), ltStr a b = decide (a < b)
  | _, [] => by unfold ltStr; simp
  | [], _ :: _ => by unfold ltStr; simp
  | x :: xs, y :: ys => by
    unfold ltStr
    by_cases h : x = y
    · rw [if_pos h, ltStr_lt xs ys]
      subst h
      simp [List.cons_lt_cons_iff]
    · rw [if_neg h]
      simp [h, List.cons_lt_cons_iff]
section
variable {X : Cx} {pins : List (Addr × Obj)} {σ : L2.St} {H F : Hp} {s : Shared} {R : RCx} {x y : V} {v u : Value} {dx dy : D} {Q : VK}
theorem cmp_ok {o : Cop} {b : Bool} (hu : X.A.units + 65 < cLine) (hK : X.K = R.K) (I : Inv X pins σ H s) (l : Le F H) (rx : RelV x v) (ry : RelV y u) (px : RdR R F H dx x) (py : RdR R F H dy y) (e : cmpD o dx dy = some b)
    (q : Q (.bl b) H) : wpAny (model X.prog X.w) X.A (compareOp (copE o) v u) (EP X pins σ Q) X.xe s := by
  have isOk : ∀ {c : Bool}, isD dx dy = some c → (dy = .non ∧ c = decide (x = .non) ∧ y = .non) ∨ ∃ a d, x = .bl a ∧ y = .bl d ∧ c = decide (a = d) := fun {c} h => by
    cases dy with
    | non =>
      refine .inl ⟨rfl, ?_, py.non⟩
      cases dx with
      | non =>
        rw [px.non]
        simpa [isD, eq_comm] using h
      | bl _ => rw [px.bl]; simpa [isD, eq_comm] using h
      | int _ => rw [px.int]; simpa [isD, eq_comm] using h
      | str _ => rw [px.str]; simpa [isD, eq_comm, strV] using h
      | tup _ =>
        obtain ⟨_, _, e, _⟩ := px.tup l
        rw [e]; simpa [isD, eq_comm] using h
      | lst _ =>
        obtain ⟨_, _, e, _⟩ := px.lst l
        rw [e]; simpa [isD, eq_comm] using h
      | dct _ _ =>
        have : ∃ a, x = .ref a := by
          rcases px with p | ⟨a, _, e, _⟩
          · unfold Rep at p; obtain ⟨a, _, _, e, _⟩ := p; exact ⟨a, e⟩
          · exact ⟨a, e⟩
        obtain ⟨a, e⟩ := this
        rw [e]; simpa [isD, eq_comm] using h
      | obj _ _ =>
        have : ∃ a, x = .ref a := by
          rcases px with p | ⟨a, _, e, _⟩
          · unfold Rep at p; obtain ⟨a, _, _, e, _⟩ := p; exact ⟨a, e⟩
          · exact ⟨a, e⟩
        obtain ⟨a, e⟩ := this
        rw [e]; simpa [isD, eq_comm] using h
      | scr _ =>
        obtain ⟨_, _, e, _⟩ := px.scr l
        rw [e]; simpa [isD, eq_comm] using h
    | bl d =>
      cases dx with
      | bl a =>
        refine .inr ⟨a, d, px.bl, py.bl, ?_⟩
        simp only [isD, Option.some.injEq] at h
        rw [← h]
        cases a <;> cases d <;> rfl
      | _ => simp [isD] at h
    | _ => cases dx <;> simp [isD] at h
  have inOk : ∀ {c : Bool}, inD dx dy = some c → (∃ xs, (dy = .lst xs) ∧ shal 40 dx = true ∧ shals 40 xs = true ∧ c = xs.any fun z => eqD z dx) ∨ (∃ xs, (dy = .tup xs) ∧ shal 40 dx = true ∧ shals 40 xs = true ∧ c = xs.any fun z => eqD z dx) ∨
      (∃ k t, dx = .str [k] ∧ dy = .str t ∧ c = t.contains k) := fun {c} h => by
    cases dy with
    | lst xs =>
      have h' : (if shal 40 dx && shals 40 xs then some (xs.any fun x => eqD x dx) else none) = some c := by
        cases dx <;> first | exact h | (unfold inD at h; exact h)
      split at h'
      · rename_i hz
        rw [Bool.and_eq_true] at hz
        exact .inl ⟨xs, rfl, hz.1, hz.2, (Option.some.inj h').symm⟩
      · cases h'
    | tup xs =>
      have h' : (if shal 40 dx && shals 40 xs then some (xs.any fun x => eqD x dx) else none) = some c := by
        cases dx <;> first | exact h | (unfold inD at h; exact h)
      split at h'
      · rename_i hz
        rw [Bool.and_eq_true] at hz
        exact .inr (.inl ⟨xs, rfl, hz.1, hz.2, (Option.some.inj h').symm⟩)
      · cases h'
    | str t =>
      unfold inD at h
      split at h <;> first | (cases h; done) | skip
      all_goals (first | (rename_i heq _; cases heq) | skip)
      all_goals (first | (simp only [D.str.injEq] at *; subst_vars; exact .inr (.inr ⟨_, _, rfl, rfl, (Option.some.inj h).symm⟩)) | skip)
      all_goals (first | simp_all | skip)
    | _ => cases dx <;> simp [inD] at h
  have hu1 : X.A.units + 64 < cLine := by omega
  have rdL : ∀ {xs : List D}, dy = .lst xs → shals 40 xs = true → Dp X.K H y (.list (toPds xs)) ∧ SeqAt.shaped (.list (toPds xs)) = true := fun {xs} ey hs => by
    subst ey
    obtain ⟨a, vs, e, ha, ra⟩ := py.lst l
    subst e
    refine ⟨.lst (SqL.of ha) (by rw [hK]; exact RepL.dp l 40 xs vs hs ra), ?_⟩
    obtain ⟨h1, h2⟩ := shals_lay 40 xs hs
    unfold SeqAt.shaped PyData.canLay0 PyData.depth
    rw [h1, Bool.true_and]
    exact decide_eq_true (by omega)
  have rdT : ∀ {xs : List D}, dy = .tup xs → shals 40 xs = true → Dp X.K H y (.tuple (toPds xs)) ∧ SeqAt.shaped (.tuple (toPds xs)) = true := fun {xs} ey hs => by
    subst ey
    obtain ⟨a, vs, e, ha, ra⟩ := py.tup l
    subst e
    refine ⟨.tup (by rw [hK]; exact ha) (by rw [hK]; exact RepL.dp l 40 xs vs hs ra), ?_⟩
    obtain ⟨h1, h2⟩ := shals_lay 40 xs hs
    unfold SeqAt.shaped PyData.canLay0 PyData.depth
    rw [h1, Bool.true_and]
    exact decide_eq_true (by omega)
  cases o with
  | eq =>
    simp only [cmpD] at e
    split at e <;> cases e
    rename_i hz
    rw [Bool.and_eq_true] at hz
    refine op_eqD hu1 pins s σ H _ _ v u Q I rx ry ⟨_, _, by rw [hK]; exact px.dp l hz.1, by rw [hK]; exact py.dp l hz.2, shal_shaped hz.1, shal_shaped hz.2, ?_⟩
    rw [eqv_toPd 40 _ _ hz.1 hz.2]
    exact q
  | ne =>
    simp only [cmpD] at e
    split at e <;> cases e
    rename_i hz
    rw [Bool.and_eq_true] at hz
    refine op_neD hu1 pins s σ H _ _ v u Q I rx ry ⟨_, _, by rw [hK]; exact px.dp l hz.1, by rw [hK]; exact py.dp l hz.2, shal_shaped hz.1, shal_shaped hz.2, ?_⟩
    rw [eqv_toPd 40 _ _ hz.1 hz.2]
    exact q
  | lt =>
    cases dx with
    | int i =>
      cases dy with
      | int j =>
        cases px.int; cases py.int
        simp only [cmpD, Option.some.injEq] at e; subst e
        exact op_lt pins s σ H _ _ v u Q I rx ry ⟨i, j, rfl, rfl, q⟩
      | _ => simp [cmpD] at e
    | str i =>
      cases dy with
      | str j =>
        cases px.str; cases py.str
        simp only [cmpD, Option.some.injEq] at e; subst e
        refine op_lt_str pins s σ H _ _ v u Q I rx ry ⟨_, _, rfl, rfl, ?_⟩
        rw [ltStr_lt] at q
        exact q
      | _ => simp [cmpD] at e
    | _ => simp [cmpD] at e
  | le =>
    cases dx with
    | int i =>
      cases dy with
      | int j =>
        cases px.int; cases py.int
        simp only [cmpD, Option.some.injEq] at e; subst e
        exact op_le pins s σ H _ _ v u Q I rx ry ⟨i, j, rfl, rfl, q⟩
      | _ => simp [cmpD] at e
    | _ => simp [cmpD] at e
  | gt =>
    cases dx with
    | int i =>
      cases dy with
      | int j =>
        cases px.int; cases py.int
        simp only [cmpD, Option.some.injEq] at e; subst e
        exact op_gt pins s σ H _ _ v u Q I rx ry ⟨i, j, rfl, rfl, q⟩
      | _ => simp [cmpD] at e
    | _ => simp [cmpD] at e
  | ge =>
    cases dx with
    | int i =>
      cases dy with
      | int j =>
        cases px.int; cases py.int
        simp only [cmpD, Option.some.injEq] at e; subst e
        exact op_ge pins s σ H _ _ v u Q I rx ry ⟨i, j, rfl, rfl, q⟩
      | _ => simp [cmpD] at e
    | _ => simp [cmpD] at e
  | is =>
    simp only [cmpD] at e
    rcases isOk e with ⟨_, h2, h3⟩ | ⟨a, d, h1, h2, h3⟩
    · refine op_isN pins s σ H _ _ v u Q I rx ry ⟨h3, ?_⟩
      rw [← h2]; exact q
    · refine op_isBl pins s σ H _ _ v u Q I rx ry ⟨a, d, h1, h2, ?_⟩
      rw [← h3]; exact q
  | isnt =>
    simp only [cmpD, Option.map_eq_some_iff] at e
    obtain ⟨c, e, ec⟩ := e
    rcases isOk e with ⟨_, h2, h3⟩ | ⟨a, d, h1, h2, h3⟩
    · refine op_notN pins s σ H _ _ v u Q I rx ry ⟨h3, ?_⟩
      rw [← h2, ec]; exact q
    · refine op_notBl pins s σ H _ _ v u Q I rx ry ⟨a, d, h1, h2, ?_⟩
      rw [← h3, ec]; exact q
  | in_ =>
    simp only [cmpD] at e
    rcases inOk e with ⟨xs, ey, h1, h2, h3⟩ | ⟨xs, ey, h1, h2, h3⟩ | ⟨k, t, ex, ey, h3⟩
    · obtain ⟨d1, d2⟩ := rdL ey h2
      refine op_inD hu pins s σ H _ _ v u Q I rx ry ⟨_, _, by rw [hK]; exact px.dp l h1, d1, shal_shaped h1, d2, ?_⟩
      rw [any_toPd h1 h2, ← h3]; exact q
    · obtain ⟨d1, d2⟩ := rdT ey h2
      obtain ⟨as, r1⟩ := Dp.reads I _ x v (by rw [hK]; exact px.dp l h1) rx
      obtain ⟨bs, r2⟩ := Dp.reads I _ y u d1 ry
      refine SeqAt.in_tuple_reads r2 r1 (SeqAt.canLay_of_shaped d2) (SeqAt.canLay_of_shaped (shal_shaped h1)) (room_in_shaped (shal_shaped h1) hu) ⟨.bl _, H, I, rfl, ?_⟩
      rw [any_toPd h1 h2, ← h3]; exact q
    · subst ex ey
      cases px.str; cases py.str
      refine op_in_sign pins s σ H _ _ v u Q I rx ry ⟨k, ⟨t.toArray⟩, rfl, rfl, ?_⟩
      have : decide (k ∈ (⟨t.toArray⟩ : Str).cps.toList) = b := by
        rw [h3]; simp
      rw [this]; exact q
  | notin =>
    simp only [cmpD, Option.map_eq_some_iff] at e
    obtain ⟨c, e, ec⟩ := e
    rcases inOk e with ⟨xs, ey, h1, h2, h3⟩ | ⟨xs, ey, h1, h2, h3⟩ | ⟨k, t, ex, ey, h3⟩
    · obtain ⟨d1, d2⟩ := rdL ey h2
      refine op_notInD hu pins s σ H _ _ v u Q I rx ry ⟨_, _, by rw [hK]; exact px.dp l h1, d1, shal_shaped h1, d2, ?_⟩
      rw [any_toPd h1 h2, ← h3, ec]; exact q
    · obtain ⟨d1, d2⟩ := rdT ey h2
      obtain ⟨as, r1⟩ := Dp.reads I _ x v (by rw [hK]; exact px.dp l h1) rx
      obtain ⟨bs, r2⟩ := Dp.reads I _ y u d1 ry
      refine SeqAt.notIn_tuple_reads r2 r1 (SeqAt.canLay_of_shaped d2) (SeqAt.canLay_of_shaped (shal_shaped h1)) (room_in_shaped (shal_shaped h1) hu) ⟨.bl _, H, I, rfl, ?_⟩
      rw [any_toPd h1 h2, ← h3, ec]; exact q
    · subst ex ey
      cases px.str; cases py.str
      refine op_notIn_sign pins s σ H _ _ v u Q I rx ry ⟨k, ⟨t.toArray⟩, rfl, rfl, ?_⟩
      have : decide (k ∈ (⟨t.toArray⟩ : Str).cps.toList) = c := by
        rw [h3]; simp
      rw [this, ec]; exact q
end
end PK
end
section
set_option Elab.async false
set_option linter.all false
set_option maxRecDepth 100000
set_option maxHeartbeats 4000000
/-! PkDct: dicts whose keys are tuples: look-ups, dict(pairs). -/
namespace PK
open PySem PySem.Spec PyProof.Rows L2
/-! ### keys -/
mutual
theorem key_nk : ∀ {n m : Nat} {a b : D}, keyB n a = true → keyB m b = true → eqD a b = NestedKey.beq (nk a) (nk b)
  | n, m, a, b, ha, hb => by
    cases a with
    | tup xs =>
      cases b with
      | tup ys =>
        cases n with
        | zero => simp [keyB] at ha
        | succ n =>
          cases m with
          | zero => simp [keyB] at hb
          | succ m =>
            simp only [keyB] at ha hb
            simp only [eqD, nk, NestedKey.beq]
            exact keys_nk ha hb
      | _ => first | (simp [keyB] at hb; done) | (simp [eqD, nk, NestedKey.beq])
    | str s =>
      cases b with
      | str t =>
        simp only [eqD, nk, NestedKey.beq]
        by_cases h : s = t
        · subst h; simp
        · have : ¬ (⟨s.toArray⟩ : Str) = ⟨t.toArray⟩ := fun e => h (by have := congrArg (fun z : Str => z.cps.toList) e; simpa using this)
          simp [h, this]
      | _ => first | (simp [keyB] at hb; done) | (simp [eqD, nk, NestedKey.beq])
    | int i =>
      cases b with
      | int j => simp only [eqD, nk, NestedKey.beq]; rw [Bool.beq_eq_decide_eq]
      | bl c => simp only [eqD, nk, NestedKey.beq]; rw [Bool.beq_eq_decide_eq]
      | _ => first | (simp [keyB] at hb; done) | (simp [eqD, nk, NestedKey.beq])
    | bl c =>
      cases b with
      | int j => simp only [eqD, nk, NestedKey.beq]; rw [Bool.beq_eq_decide_eq]
      | bl e => cases c <;> cases e <;> rfl
      | _ => first | (simp [keyB] at hb; done) | (simp [eqD, nk, NestedKey.beq])
    | non =>
      cases b with
      | non => rfl
      | _ => first | (simp [keyB] at hb; done) | (simp [eqD, nk, NestedKey.beq])
    | _ => simp [keyB] at ha
theorem keys_nk : ∀ {n m : Nat} {a b : List D}, keysB n a = true → keysB m b = true → eqDs a b = NestedKey.beqAll (nks a) (nks b)
  | n, m, [], [], _, _ => by simp [eqDs, nks, NestedKey.beqAll]
  | n, m, [], _ :: _, _, _ => by simp [eqDs, nks, NestedKey.beqAll]
  | n, m, _ :: _, [], _, _ => by simp [eqDs, nks, NestedKey.beqAll]
  | n, m, x :: xs, y :: ys, ha, hb => by
    simp only [keysB, Bool.and_eq_true] at ha hb
    simp only [eqDs, nks, NestedKey.beqAll]
    rw [key_nk ha.1 hb.1, keys_nk ha.2 hb.2]
end
mutual
theorem key_depth : ∀ {n : Nat} {a : D}, keyB n a = true → (nk a).depth ≤ n
  | n, a, h => by
    cases a with
    | tup xs =>
      cases n with
      | zero => simp [keyB] at h
      | succ n =>
        simp only [keyB] at h
        simp only [nk, NestedKey.depth]
        have := keys_depth h
        omega
    | _ => simp [nk, NestedKey.depth]
theorem keys_depth : ∀ {n : Nat} {a : List D}, keysB n a = true → NestedKey.depthAll (nks a) ≤ n
  | n, [], _ => by simp [nks, NestedKey.depthAll]
  | n, x :: xs, h => by
    simp only [keysB, Bool.and_eq_true] at h
    simp only [nks, NestedKey.depthAll]
    exact Nat.max_le.mpr ⟨key_depth h.1, keys_depth h.2⟩
end
theorem isKey_k {d : D} (h : isKey d = true) : keyB 6 d = true := by
  cases d with
  | tup xs => exact h
  | _ => simp [isKey] at h
theorem key_eq {a b : D} (ha : isKey a = true) (hb : isKey b = true) : eqD a b = decide (nk a = nk b) := by
  rw [key_nk (isKey_k ha) (isKey_k hb), NestedKey.decide_eq]
section
variable {X : Cx} {pins : List (Addr × Obj)} {σ : L2.St} {H F : Hp} {s : Shared} {R : RCx}
mutual
theorem nested_is (hK : X.K = R.K) (I : Inv X pins σ H s) (l : Le F H) : ∀ {n : Nat} {d : D} {v : V} {u : Value}, keyB n d = true → Rep R F d v → RelV v u → NestedIs s.heap (nk d) u
  | n, d, v, u, h, r, q => by
    cases d with
    | tup xs =>
      cases n with
      | zero => simp [keyB] at h
      | succ n =>
        simp only [keyB] at h
        unfold Rep at r
        obtain ⟨a, vs, rfl, hq, hr⟩ := r
        cases q
        obtain ⟨its, rv, ⟨o, ho, hc, m, hd⟩, _⟩ := I.tuple (X := X) (a := a) (xs := vs) (by rw [hK]; exact l.sqT hq)
        simp only [nk]
        exact .tup ho hc hd (nested_all hK I l h hr rv)
    | str s1 =>
      cases (show v = strV s1 from r)
      obtain ⟨t, rfl⟩ := q
      exact .text _ _
    | int i =>
      cases (show v = .int i from r)
      obtain ⟨t, rfl⟩ := q
      exact .int _ _
    | bl b =>
      cases (show v = .bl b from r)
      cases q
      exact .bool rfl
    | non =>
      cases (show v = .non from r)
      cases q
      exact .none
    | _ => simp [keyB] at h
theorem nested_all (hK : X.K = R.K) (I : Inv X pins σ H s) (l : Le F H) : ∀ {n : Nat} {ds : List D} {vs : List V} {us : List Value}, keysB n ds = true → RepL R F ds vs → Vals vs us → NestedAll s.heap (nks ds) us
  | n, [], vs, us, _, r, q => by
    unfold RepL at r
    subst r
    cases q
    exact .nil
  | n, d :: ds, vs, us, h, r, q => by
    simp only [keysB, Bool.and_eq_true] at h
    unfold RepL at r
    obtain ⟨v, vs', rfl, r1, r2⟩ := r
    cases q with
    | cons q1 q2 => exact .cons (nested_is hK I l h.1 r1 q1) (nested_all hK I l h.2 r2 q2)
end
theorem key_is (hK : X.K = R.K) (I : Inv X pins σ H s) (l : Le F H) {d : D} {a : Addr} (h : isKey d = true) (r : Rep R F d (.ref a)) : (nestedKind X.prog X.w).is s.heap (nk d) a :=
  ⟨nested_is hK I l (isKey_k h) r rfl, by have := key_depth (isKey_k h); omega⟩
theorem ents_is (hK : X.K = R.K) (I : Inv X pins σ H s) (l : Le F H) : ∀ {ks : List D} {xs : List Ent}, RepL R F ks (xs.map fun x : Ent => V.ref x.2.1) → ks.map nk = xs.map (·.1) → ks.all isKey = true → ∀ x ∈ xs, (nestedKind X.prog X.w).is s.heap x.1 x.2.1
  | [], [], _, _, _ => fun x hx => nomatch hx
  | [], _ :: _, r, _, _ => by unfold RepL at r; cases r
  | _ :: _, [], _, e, _ => by simp at e
  | k :: ks, x :: xs, r, e, b => by
    rw [List.map_cons] at r
    unfold RepL at r
    obtain ⟨v, vs', ev, r1, r2⟩ := r
    simp only [List.cons.injEq] at ev
    obtain ⟨rfl, rfl⟩ := ev
    simp only [List.map_cons, List.cons.injEq] at e
    simp only [List.all_cons, Bool.and_eq_true] at b
    intro y hy
    rcases List.mem_cons.mp hy with rfl | hy
    · rw [← e.1]
      exact key_is hK I l b.1 r1
    · exact ents_is hK I l r2 e.2 b.2 y hy
theorem ents_get {k d : D} (hk : isKey k = true) : ∀ {ks ds : List D} {xs : List Ent} {us : List V}, ks.map nk = xs.map (·.1) → ks.all isKey = true → RepL R F ds us → Vals us (xs.map (·.2.2)) → getK ks ds k = some d → ∃ (i : Nat) (x : Ent) (z : V), xs[i]? = some x ∧ x.1 = nk k ∧ Rep R F d z ∧ RelV z x.2.2
  | [], ds, xs, us, _, _, _, _, g => by cases ds <;> simp [getK] at g
  | _ :: _, [], xs, us, _, _, _, _, g => by simp [getK] at g
  | k0 :: ks, d0 :: ds, [], us, e, _, _, _, _ => by simp at e
  | k0 :: ks, d0 :: ds, x :: xs, us, e, b, r, v, g => by
    simp only [List.map_cons, List.cons.injEq] at e
    simp only [List.all_cons, Bool.and_eq_true] at b
    unfold RepL at r
    obtain ⟨z, us', rfl, r1, r2⟩ := r
    rw [List.map_cons] at v
    cases v with
    | cons v1 v2 =>
      unfold getK at g
      rw [key_eq b.1 hk] at g
      by_cases h : nk k0 = nk k
      · rw [if_pos (decide_eq_true h)] at g
        cases g
        exact ⟨0, x, z, rfl, by rw [← e.1, h], r1, v1⟩
      · rw [if_neg (by simpa using h)] at g
        obtain ⟨i, y, z', h1, h2, h3, h4⟩ := ents_get hk e.2 b.2 r2 v2 g
        exact ⟨i + 1, y, z', h1, h2, h3, h4⟩
theorem dct_held (hP : X.prog = R.P) (hw : X.w = R.w) (hK : X.K = R.K) (I : Inv X pins σ H s) (l : Le F H) {a : Addr} {xs : List Ent} {ks : List D} (ha : F a = some (DO R a xs)) (rk : RepL R F ks (xs.map fun x : Ent => V.ref x.2.1)) (e : ks.map nk = xs.map (·.1)) (b : ks.all isKey = true) :
    (a == sysModules) = false ∧ xs.length ≤ sizeLine ∧ s.heap.DictOfH (nestedKind X.prog X.w) a xs := by
  have h := I.hok a _ (l _ _ ha)
  obtain ⟨⟨h1, h2, o, es, ep, h3, h4, h5, h6, h7⟩, _⟩ := (show DictAt R.P R.w a xs s.heap ∧ _ from h)
  rw [← hP, ← hw] at h6
  exact ⟨h1, h2, o, es, ep, h3, h4, h5, h6, ents_is hK I l rk e b, h7⟩
theorem dct_get {A : Around} {E : Value → Shared → Prop} (hP : X.prog = R.P) (hw : X.w = R.w) (hK : X.K = R.K) (hu : A.units + 9 < cLine) (I : Inv X pins σ H s) (l : Le F H) {a b : Addr} {ks ds : List D} {k d : D} (r : Rep R F (.dct ks ds) (.ref a)) (hk : isKey k = true) (rk : Rep R F k (.ref b)) (e : getK ks ds k = some d)
    {Q : Value → Shared → Prop} (h : ∀ z w' s', Inv X pins σ H s' → RelV z w' → Rep R F d z → Q w' s') : wpAny (model X.prog X.w) A (getItem (.ref a) (.ref b)) Q E s := by
  unfold Rep at r
  obtain ⟨a', xs, us, ea, ha, r1, e1, b1, r2, v2⟩ := r
  cases ea
  obtain ⟨_, _, hm⟩ := dct_held hP hw hK I l ha r1 e1 b1
  obtain ⟨i, x, z, g1, g2, g3, g4⟩ := ents_get hk e1 b1 r2 v2 e
  obtain ⟨_, _, _, _, _, _, _, _, hn⟩ := id hm
  have hx : xs[i]? = some (nk k, x.2) := by rw [g1, ← g2]
  exact wpAny_getItem_heap (show A.in1.units + 8 < cLine by show A.units + 1 + 8 < cLine; omega) (key_is hK I l hk rk) hm (atKey_of_get hn hx) (h z _ _ (I.tok _) g4 g3)
/-! ### dict(pairs) -/
/-- keys, values, entries side by side -/
inductive R3 (R : RCx) (F : Hp) : List D → List D → List Ent → Prop
  | nil : R3 R F [] [] []
  | cons {k d : D} {z : V} {x : Ent} {ks ds : List D} {xs : List Ent} : isKey k = true → x.1 = nk k → Rep R F k (.ref x.2.1) → Rep R F d z → RelV z x.2.2 → R3 R F ks ds xs → R3 R F (k :: ks) (d :: ds) (x :: xs)
theorem R3.parts : ∀ {ks ds : List D} {xs : List Ent}, R3 R F ks ds xs → ∃ us, RepL R F ks (xs.map fun x : Ent => V.ref x.2.1) ∧ ks.map nk = xs.map (·.1) ∧ ks.all isKey = true ∧ RepL R F ds us ∧ Vals us (xs.map (·.2.2))
  | _, _, _, .nil => ⟨[], by simp [RepL], rfl, rfl, by simp [RepL], .nil⟩
  | _, _, _, .cons (z := z) hk hx rk rd rv t => by
    obtain ⟨us, h1, h2, h3, h4, h5⟩ := t.parts
    refine ⟨z :: us, ?_, by simp [hx, h2], by simp [hk, h3], ?_, .cons rv h5⟩
    · rw [List.map_cons]; unfold RepL; exact ⟨_, _, rfl, rk, h1⟩
    · unfold RepL; exact ⟨_, _, rfl, rd, h4⟩
theorem R3.mono {F' : Hp} (l : Le F F') : ∀ {ks ds : List D} {xs : List Ent}, R3 R F ks ds xs → R3 R F' ks ds xs
  | _, _, _, .nil => .nil
  | _, _, _, .cons hk hx rk rd rv t => .cons hk hx (rk.mono l) (rd.mono l) rv (t.mono l)
theorem R3.noKey {k : NestedKey} : ∀ {ks ds : List D} {xs : List Ent}, R3 R F ks ds xs → atKey xs k = none → ∀ k' ∈ ks, nk k' ≠ k
  | _, _, _, .nil, _ => fun k' h => nomatch h
  | _, _, _, .cons (k := k0) (x := x) (xs := xs) hk hx rk rd rv t, h => by
    intro k' hk'
    by_cases e : x.1 = k
    · simp [atKey, e] at h
    · have h' : atKey xs k = none := by simpa [atKey, List.find?_cons, e] using h
      rcases List.mem_cons.mp hk' with rfl | hk'
      · rw [← hx]; exact e
      · exact t.noKey h' k' hk'
/-- one entry stored -/
theorem R3.put {k d : D} {z : V} {b : Addr} {w : Value} (hk : isKey k = true) (rk : Rep R F k (.ref b)) (rd : Rep R F d z) (rv : RelV z w) : ∀ {ks ds : List D} {xs : List Ent}, R3 R F ks ds xs → (xs.map (·.1)).Nodup → R3 R F (putK ks ds k d).1 (putK ks ds k d).2 (storedH xs (nk k) b w)
  | _, _, _, .nil, _ => by
    have e : storedH ([] : List Ent) (nk k) b w = [(nk k, b, w)] := rfl
    rw [e]
    unfold putK
    exact .cons hk rfl rk rd rv .nil
  | _, _, _, .cons (k := k0) (d := d0) (z := z0) (x := x) (ks := ks) (ds := ds) (xs := xs) hk0 hx rk0 rd0 rv0 t, hn => by
    rw [List.map_cons, List.nodup_cons] at hn
    unfold putK
    rw [key_eq hk0 hk]
    by_cases h : nk k0 = nk k
    · rw [if_pos (decide_eq_true h)]
      have hx' : x.1 = nk k := by rw [hx, h]
      have hs : storedH (x :: xs) (nk k) b w = (x.1, x.2.1, w) :: xs := by
        have : (atKey (x :: xs) (nk k)).isSome = true := by simp [atKey, hx']
        unfold storedH
        rw [if_pos this, List.map_cons, map_putAt_of_not_mem xs (nk k) w (by rw [← hx']; exact hn.1)]
        simp [putAt, hx']
      rw [hs]
      exact .cons hk0 hx rk0 rd rv t
    · rw [if_neg (by simpa using h)]
      have hx' : ¬ x.1 = nk k := by rw [hx]; exact h
      have hs : storedH (x :: xs) (nk k) b w = x :: storedH xs (nk k) b w := by
        have e : atKey (x :: xs) (nk k) = atKey xs (nk k) := by simp [atKey, List.find?_cons, hx']
        unfold storedH
        rw [e]
        split
        · simp [putAt, hx']
        · rfl
      rw [hs]
      exact .cons hk0 hx rk0 rd0 rv0 (R3.put hk rk rd rv t hn.2)
theorem nodup_put (k : NestedKey) (b : Addr) (w : Value) {xs : List Ent} (hn : (xs.map (·.1)).Nodup) : ((storedH xs k b w).map (·.1)).Nodup := by
  unfold storedH
  split
  · have e : (xs.map (putAt k w)).map (·.1) = xs.map (·.1) := by
      rw [List.map_map]
      exact List.map_congr_left fun x _ => by
        show (putAt k w x).1 = x.1
        unfold putAt
        split <;> rfl
    rw [e]; exact hn
  · rename_i h
    rw [List.map_append]
    refine List.nodup_append.mpr ⟨hn, by simp, fun x hx y hy => ?_⟩
    simp only [List.map_cons, List.map_nil, List.mem_singleton] at hy
    subst hy
    rintro rfl
    apply h
    obtain ⟨y, hy, rfl⟩ := List.mem_map.mp hx
    unfold atKey
    rw [Option.isSome_map, List.find?_isSome]
    exact ⟨y, hy, by simp⟩
theorem R3.merge : ∀ {kvs : List (D × D)} {es : List Ent} {ks ds : List D} {xs : List Ent}, R3 R F (kvs.map (·.1)) (kvs.map (·.2)) es → R3 R F ks ds xs → (xs.map (·.1)).Nodup → R3 R F (mergeD kvs (ks, ds)).1 (mergeD kvs (ks, ds)).2 (storedAllH xs es)
  | [], es, ks, ds, xs, h, t, _ => by
    cases h
    exact t
  | (k, d) :: kvs, es, ks, ds, xs, h, t, hn => by
    rw [List.map_cons, List.map_cons] at h
    cases h with
    | cons hk hx rk rd rv h' =>
      rename_i z x es'
      have st := R3.put hk rk rd rv t hn
      have e : storedAllH xs (x :: es') = storedAllH (storedH xs (nk k) x.2.1 x.2.2) es' := by
        rw [← hx]; rfl
      rw [e]
      exact R3.merge (kvs := kvs) h' st (nodup_put _ _ _ hn)
theorem pairs_held (hK : X.K = R.K) (I : Inv X pins σ H s) (l : Le F H) : ∀ {ps : List D} {kvs : List (D × D)} {vs : List V} {us : List Value}, pairsD ps = some kvs → RepL R F ps vs → Vals vs us →
    ∃ (Ts : List Addr) (es : List Ent), us = Ts.map Value.ref ∧ es.length = Ts.length ∧ R3 R F (kvs.map (·.1)) (kvs.map (·.2)) es ∧ ∀ (j : Nat) (x : Ent), es[j]? = some x → ∃ T, Ts[j]? = some T ∧ IsTup s.heap T #[.ref x.2.1, x.2.2]
  | [], kvs, vs, us, e, r, v => by
    cases e
    unfold RepL at r
    subst r
    cases v
    exact ⟨[], [], rfl, rfl, .nil, fun j x h => by simp at h⟩
  | d :: ps, kvs, vs, us, e, r, v => by
    unfold pairsD at e
    split at e
    · rename_i h; cases h
    · rename_i k y r' h
      simp only [List.cons.injEq] at h
      obtain ⟨rfl, rfl⟩ := h
      split at e
      · rename_i hk
        obtain ⟨kvs', e1, e2⟩ := Option.map_eq_some_iff.mp e
        subst e2
        unfold RepL at r
        obtain ⟨v0, vs', rfl, r1, r2⟩ := r
        cases v with
        | cons v1 v2 =>
          obtain ⟨Ts, es, h1, h2, h3, h4⟩ := pairs_held hK I l e1 r2 v2
          unfold Rep at r1
          obtain ⟨T, ws, rfl, hq, rw'⟩ := r1
          cases v1
          obtain ⟨its, rv, ht, _⟩ := I.tuple (X := X) (a := T) (xs := ws) (by rw [hK]; exact l.sqT hq)
          unfold RepL at rw'
          obtain ⟨kz, ws', rfl, rk, rw''⟩ := rw'
          unfold RepL at rw''
          obtain ⟨z, ws'', rfl, rd, rn⟩ := rw''
          unfold RepL at rn
          subst rn
          obtain ⟨u, y', ei, ru, ry⟩ := vals2 rv
          subst ei
          obtain ⟨b, rfl⟩ : ∃ b, kz = .ref b := by
            cases k with
            | tup xs => unfold Rep at rk; obtain ⟨b, _, e, _⟩ := rk; exact ⟨b, e⟩
            | _ => simp [isKey] at hk
          cases ru
          refine ⟨T :: Ts, (nk k, b, y') :: es, by rw [h1]; rfl, by simp [h2], .cons hk rfl rk rd ry h3, fun j x hj => ?_⟩
          cases j with
          | zero =>
            simp only [List.getElem?_cons_zero, Option.some.injEq] at hj
            subst hj
            exact ⟨T, rfl, ht⟩
          | succ j => simpa using h4 j x (by simpa using hj)
      · cases e
    · cases e
theorem R3.is (hK : X.K = R.K) (I : Inv X pins σ H s) (l : Le F H) : ∀ {ks ds : List D} {xs : List Ent}, R3 R F ks ds xs → ∀ x ∈ xs, (nestedKind X.prog X.w).is s.heap x.1 x.2.1 := fun h => by
  obtain ⟨us, h1, h2, h3, _⟩ := h.parts
  exact ents_is hK I l h1 h2 h3
theorem DictAt.ok {P : Program} {w : World} {a : Addr} {xs : List Ent} {H' : Hp} {h : Heap} (x : DictAt P w a xs h) : ObjOk P w H' h a (.ext (DictAt P w a xs)) := by
  obtain ⟨_, _, o, _, _, e, _⟩ := id x
  refine ⟨x, ⟨o, e⟩, fun h1 h2 y k => ?_⟩
  obtain ⟨y1, y2, o, es, ep, y3, y4⟩ := y
  exact ⟨y1, y2, o, es, ep, k _ y3, y4⟩
theorem dct_new (hP : X.prog = R.P) (hw : X.w = R.w) (hK : X.K = R.K) (hc : X.calm = true) (hu : X.A.units + 12 < cLine) (I : Inv X pins σ H s) (l : Le F H) {a : Addr} {ps : List D} {kvs : List (D × D)} {vs : List V} (ha : H a = some (.lst vs)) (rp : RepL R F ps vs) (e : pairsD ps = some kvs)
    {Q : Value → Shared → Prop} {E : Value → Shared → Prop} (h : ∀ p xs s', H p = none → Inv X pins σ (upd H p (DO R p xs)) s' → Rep R (upd F p (DO R p xs)) (.dct (mergeD kvs ([], [])).1 (mergeD kvs ([], [])).2) (.ref p) → Q (.ref p) s') :
    wpAny (model X.prog X.w) X.A (call (.type "dict") [.ref a]) Q E s := by
  obtain ⟨its, rv, pl, hz⟩ := I.list (SqL.of ha)
  obtain ⟨Ts, es, h1, h2, h3, h4⟩ := pairs_held hK I l e rp rv
  subst h1
  obtain ⟨o, n, ho, hcl, hd, hdat⟩ := pl
  have hlen : vs.length = Ts.length := by have := rv.length; simpa using this
  have hg : ∀ j, j < Ts.length → Ts[j]? = some ((Ts[j]?).getD 0) := fun j hj => by simp [hj]
  have hit : PairItems s.heap (Ts.map Value.ref).toArray (fun j => (Ts[j]?).getD 0) (es.map fun x : Ent => (Value.ref x.2.1, x.2.2)) := by
    refine ⟨by simp [h2], fun j k v hj => ?_⟩
    rw [List.getElem?_map] at hj
    obtain ⟨x, hx, e2⟩ := Option.map_eq_some_iff.mp hj
    cases e2
    obtain ⟨T, hT, ht⟩ := h4 j x hx
    have eT : (fun j => (Ts[j]?).getD 0) j = T := by simp [hT]
    rw [eT]
    refine ⟨by simp [hT], .inl ?_⟩
    obtain ⟨o2, q1, q2, m, q3⟩ := ht
    exact ⟨o2, q1, q2, m, q3⟩
  have lens : es.length = (es.map fun x : Ent => (Value.ref x.2.1, x.2.2)).length := by simp
  refine call_dict_pairsH (knd := nestedKind X.prog X.w) (ps := es) (PairArg.list a (Ts.map Value.ref).toArray (fun j => (Ts[j]?).getD 0) (es.map fun x : Ent => (Value.ref x.2.1, x.2.2))) (I.ok.hd hc) (show X.A.in1.in1.units + 8 < cLine by show X.A.units + 1 + 1 + 8 < cLine; omega) ⟨⟨o, n, ho, hcl, hd, hdat⟩, hit⟩ ⟨lens, fun i key v hr => ?_⟩ (fun h' hk x hx => ?_) (by simp; omega) fun h' tk hm hk => ?_
  · have hr : (es.map fun x : Ent => (Value.ref x.2.1, x.2.2))[i]? = some (key, v) := hr
    rw [List.getElem?_map] at hr
    obtain ⟨x, hx, e2⟩ := Option.map_eq_some_iff.mp hr
    cases e2
    exact ⟨x.1, x.2.1, hx, rfl⟩
  · exact nestedKind_stays.stays (fun b ob _ _ e _ => hk b ob (Nat.ne_of_lt (Heap.lt_size e)) (by simp) e) (h3.is hK I l x hx)
  · have hp : H s.heap.objs.size = none := I.hok.fresh (Nat.le_refl _)
    have m := R3.merge h3 .nil (by simp)
    have hsz : (storedAllH ([] : List Ent) es).length ≤ sizeLine := by
      have := storedAllH_length es ([] : List Ent)
      simp at this
      omega
    obtain ⟨o', es', ep', k1, k2, k3, k4, _, k5⟩ := hm
    have da : DictAt R.P R.w s.heap.objs.size (storedAllH [] es) h' := ⟨beq_eq_false_iff_ne.mpr (Nat.ne_of_gt I.big), hsz, o', es', ep', k1, k2, k3, by rw [← hP, ← hw]; exact k4, k5⟩
    refine h s.heap.objs.size (storedAllH [] es) _ hp (I.laid (t' := tk) (fun b u e => hk b u (by simp) e) (Nat.le_refl _) ?_) ?_
    · rw [hP, hw]; exact da.ok
    · have m' := m.mono (Le.upd (o := DO R s.heap.objs.size (storedAllH [] es)) (l.none hp))
      obtain ⟨us, p1, p2, p3, p4, p5⟩ := m'.parts
      unfold Rep
      exact ⟨_, _, us, rfl, upd_same, p1, p2, p3, p4, p5⟩
end
end PK
end
section
set_option Elab.async false
set_option linter.all false
set_option maxRecDepth 100000
set_option maxHeartbeats 4000000
/-! PkSub: subscripts, slices, built-in functions and methods over represented data. -/
namespace PK
open PySem PySem.Spec PyProof.Rows L2
theorem ixZ_eq (n : Nat) (i : Int) : ixZ n i = ixN n i := rfl
theorem atZ_eq {α : Type} (xs : List α) (i : Int) : atZ xs i = atI xs i := rfl
theorem sIx_eq (n d : Nat) (o : Option Int) : sIx n d o = HT.sIx n d o := by cases o <;> rfl
theorem RepL.atZ {R : RCx} {F : Hp} {ds : List D} {vs : List V} {i : Int} {d : D} (h : RepL R F ds vs) (e : atZ ds i = some d) : ∃ v, atI vs i = some v ∧ Rep R F d v := by
  unfold PK.atZ at e
  cases q : ixZ ds.length i with
  | none => rw [q] at e; cases e
  | some j =>
    rw [q] at e
    obtain ⟨v, h1, h2⟩ := h.get e
    refine ⟨v, ?_, h2⟩
    unfold atI
    rw [h.length, ← ixZ_eq, q]
    exact h1
theorem RepL.cut {R : RCx} {F : Hp} {ds : List D} {vs : List V} (h : RepL R F ds vs) (lo hi : Option Int) : RepL R F (cut ds lo hi) (cutV vs lo hi) := by
  unfold PK.cut cutV
  rw [h.length, sIx_eq, sIx_eq]
  exact (h.drop _).take _
theorem str_ix {s : List Nat} {i : Int} : atI (⟨s.toArray⟩ : Str).cps.toList i = atZ s i := by simp [atZ_eq]
theorem cutS_eq (s : List Nat) (lo hi : Option Int) : V.str (cutS ⟨s.toArray⟩ lo hi) = strV (cut s lo hi) := by
  unfold cutS strV cut
  have : (⟨s.toArray⟩ : Str).length = s.length := by simp [Str.length]
  rw [this, sIx_eq, sIx_eq]
/-- where a text's length is bounded: it is, in every heap that is held -/
theorem cut_whole {α : Type} (xs : List α) {lo hi : Option Int} (h : HT.sIx xs.length 0 lo = 0 ∧ HT.sIx xs.length xs.length hi = xs.length) : cut xs lo hi = xs := by
  unfold cut
  rw [sIx_eq, sIx_eq, h.1, h.2]
  simp
/-! ### readings of data -/
/-- a value that is read as data -/
def Is (R : RCx) (H : Hp) (F : Hp) (d : D) (x : V) : Prop := Le F H ∧ RdR R F H d x
def rBin (R : RCx) (o : Bop) : R2 := fun x y H Q => ∃ F dx dy r, Le F H ∧ RdR R F H dx x ∧ RdR R F H dy y ∧ binD o dx dy = some r ∧ ∀ z F' H', PSt F H F' H' → VOk R H F' H' r.1 r.2 z → Q z H'
def rCmp (R : RCx) (o : Cop) : R2 := fun x y H Q => ∃ F dx dy b, Le F H ∧ RdR R F H dx x ∧ RdR R F H dy y ∧ cmpD o dx dy = some b ∧ Q (.bl b) H
def rIxD (R : RCx) : R2 := fun x y H Q => ∃ F dx dy d, Le F H ∧ RdR R F H dx x ∧ RdR R F H dy y ∧ ixD dx dy = some d ∧ ∀ z, Rep R F d z → Q z H
def rSlD (R : RCx) : V → Option Int → Option Int → Hp → VK → Prop := fun x lo hi H Q => ∃ F dx r, Le F H ∧ RdR R F H dx x ∧ slD dx lo hi = some r ∧ ∀ z F' H', PSt F H F' H' → VOk R H F' H' r.1 r.2 z → Q z H'
section
variable {X : Cx} {R : RCx}
theorem opr_bin {o : Bop} (S : Seer X) (hK : X.K = R.K) : OpR X (binaryOp (bopE o)) (rBin R o) := by
  intro pins s σ H x y v u Q I rx ry h
  obtain ⟨F, dx, dy, r, l, px, py, e, q⟩ := h
  exact bin_ok S hK I l rx ry px py e q
theorem opr_cmp {o : Cop} (hu : X.A.units + 65 < cLine) (hK : X.K = R.K) : OpR X (compareOp (copE o)) (rCmp R o) := by
  intro pins s σ H x y v u Q I rx ry h
  obtain ⟨F, dx, dy, b, l, px, py, e, q⟩ := h
  exact cmp_ok hu hK I l rx ry px py e q
theorem ixr (hP : X.prog = R.P) (hw : X.w = R.w) (hu : X.A.units + 65 < cLine) (hK : X.K = R.K) : IxR X (rIxD R) := by
  intro value slice pins s σ H x y v u Q I rx ry h hs
  obtain ⟨F, dx, dy, d, l, px, py, e, q⟩ := h
  cases dx with
  | dct ks ds =>
    have e : (if isKey dy then getK ks ds dy else none) = some d := by cases dy <;> exact e
    split at e
    · rename_i hk
      have rd : Rep R F (.dct ks ds) x := by
        rcases px with h | ⟨a, o, e, _, ho, q⟩
        · exact h
        · exact q.elim
      have rk : Rep R F dy y := by
        cases dy with
        | tup xs => exact py.tupF
        | _ => simp [isKey] at hk
      obtain ⟨b, rfl⟩ : ∃ b, y = .ref b := by
        cases dy with
        | tup xs => unfold Rep at rk; obtain ⟨b, _, e, _⟩ := rk; exact ⟨b, e⟩
        | _ => simp [isKey] at hk
      have rd' := rd
      unfold Rep at rd'
      obtain ⟨a, xs, us, rfl, ha, r1, e1, b1, r2, v2⟩ := rd'
      cases rx
      cases ry
      obtain ⟨_, _, hm⟩ := dct_held hP hw hK I l ha r1 e1 b1
      exact tail_any hm.typeIs slot_dict_getitem.lookup (dct_get hP hw hK (by omega) I l rd hk rk e fun z w' s' I' rz rp => ⟨z, H, I', rz, q z rp⟩) hs
    · cases e
  | lst xs =>
    cases dy with
    | int i =>
      cases py.int
      obtain ⟨a, vs, rfl, ha, ra⟩ := px.lst l
      obtain ⟨z, h1, h2⟩ := ra.atZ (show atZ xs i = some d from e)
      exact ix_list value slice pins s σ H _ _ v u Q I rx ry ⟨a, vs, i, z, rfl, rfl, SqL.of ha, h1, q z h2⟩ hs
    | _ => simp [ixD] at e
  | scr xs =>
    cases dy with
    | int i =>
      cases py.int
      obtain ⟨a, vs, rfl, ha, ra⟩ := px.scr l
      obtain ⟨z, h1, h2⟩ := ra.atZ (show atZ xs i = some d from e)
      exact ix_list value slice pins s σ H _ _ v u Q I rx ry ⟨a, vs, i, z, rfl, rfl, by rw [hK]; exact ha, h1, q z h2⟩ hs
    | _ => simp [ixD] at e
  | tup xs =>
    cases dy with
    | int i =>
      cases py.int
      obtain ⟨a, vs, rfl, ha, ra⟩ := px.tup l
      obtain ⟨z, h1, h2⟩ := ra.atZ (show atZ xs i = some d from e)
      exact ix_tup value slice pins s σ H _ _ v u Q I rx ry ⟨a, vs, i, z, rfl, rfl, by rw [hK]; exact ha, h1, q z h2⟩ hs
    | _ => simp [ixD] at e
  | str s1 =>
    cases dy with
    | int i =>
      cases px.str; cases py.int
      simp only [ixD] at e
      split at e
      · rename_i hz
        obtain ⟨c, h1, h2⟩ := Option.map_eq_some_iff.mp e
        exact ix_str value slice pins s σ H (strV s1) (.int i) _ _ Q I rx ry ⟨_, i, c, rfl, rfl, by rw [← line_eq]; simpa [Str.length] using hz, by rw [str_ix]; exact h1, q _ (by rw [← h2]; rfl)⟩ hs
      · cases e
    | _ => simp [ixD] at e
  | _ => cases dy <;> simp [ixD] at e
theorem slr (hK : X.K = R.K) : SlR X (rSlD R) := by
  intro pins s σ H x v vl vu lo hi sl Q I rx hs pl pu h
  obtain ⟨F, dx, r, l, px, e, q⟩ := h
  cases dx with
  | lst xs =>
    obtain ⟨a, vs, rfl, ha, ra⟩ := px.lst l
    simp only [slD, Option.some.injEq] at e; subst e
    exact sl_list pins s σ H _ v vl vu lo hi sl Q I rx hs pl pu ⟨a, vs, rfl, SqL.of ha, fun p hp => q _ _ _ (.newO l hp) (.newL l hp (ra.cut lo hi))⟩
  | tup xs =>
    obtain ⟨a, vs, rfl, ha, ra⟩ := px.tup l
    simp only [slD, Option.some.injEq] at e; subst e
    refine sl_tupA pins s σ H _ v vl vu lo hi sl Q I rx hs pl pu ⟨a, vs, rfl, by rw [hK]; exact ha, fun hw => ?_, fun _ p hp => q _ _ _ (.newF l hp) (.newT l hp (ra.cut lo hi))⟩
    refine q _ F H (.refl l) ?_
    rw [ra.length] at hw
    show Rep R F (.tup (cut xs lo hi)) _
    rw [cut_whole xs hw]
    exact px.tupF
  | str s1 =>
    cases px.str
    simp only [slD] at e
    split at e <;> cases e
    rename_i hz
    refine sl_str pins s σ H _ v vl vu lo hi sl Q I rx hs pl pu ⟨_, rfl, by rw [← line_eq]; simpa [Str.length] using hz, ?_⟩
    rw [cutS_eq]
    exact q _ F H (.refl l) rfl
  | _ => simp [slD] at e
end

/-! ### lists of values that are read -/
def RdL (R : RCx) (F H : Hp) : List D → List V → Prop
  | [], vs => vs = []
  | d :: ds, vs => ∃ v vs', vs = v :: vs' ∧ RdR R F H d v ∧ RdL R F H ds vs'
theorem RdL.one {R : RCx} {F H : Hp} {d : D} {vs : List V} (h : RdL R F H [d] vs) : ∃ v, vs = [v] ∧ RdR R F H d v := by
  unfold RdL at h
  obtain ⟨v, vs', e, r, t⟩ := h
  unfold RdL at t
  subst t
  exact ⟨v, e, r⟩
theorem RdL.two {R : RCx} {F H : Hp} {d d' : D} {vs : List V} (h : RdL R F H [d, d'] vs) : ∃ v v', vs = [v, v'] ∧ RdR R F H d v ∧ RdR R F H d' v' := by
  unfold RdL at h
  obtain ⟨v, vs', e, r, t⟩ := h
  obtain ⟨v', e', r'⟩ := RdL.one t
  subst e'
  exact ⟨v, v', e, r, r'⟩
theorem boolsD_rep {R : RCx} {F : Hp} : ∀ {ds : List D} {bs : List Bool} {vs : List V}, boolsD ds = some bs → RepL R F ds vs → vs = bs.map V.bl
  | [], bs, vs, e, h => by
    simp only [boolsD, Option.some.injEq] at e; subst e
    exact h
  | .bl b :: ds, bs, vs, e, h => by
    obtain ⟨bs', e1, e2⟩ := Option.map_eq_some_iff.mp (show (boolsD ds).map (b :: ·) = some bs from e)
    unfold RepL at h
    obtain ⟨v, vs', ev, r, t⟩ := h
    subst ev e2
    rw [boolsD_rep e1 t]
    cases (show v = V.bl b from r)
    rfl
  | .non :: _, _, _, e, _ => nomatch e
  | .int _ :: _, _, _, e, _ => nomatch e
  | .str _ :: _, _, _, e, _ => nomatch e
  | .tup _ :: _, _, _, e, _ => nomatch e
  | .lst _ :: _, _, _, e, _ => nomatch e
  | .dct _ _ :: _, _, _, e, _ => nomatch e
  | .obj _ _ :: _, _, _, e, _ => nomatch e
  | .scr _ :: _, _, _, e, _ => nomatch e
theorem intsD_rep {R : RCx} {F : Hp} : ∀ {ds : List D} {bs : List Int} {vs : List V}, intsD ds = some bs → RepL R F ds vs → vs = bs.map V.int
  | [], bs, vs, e, h => by
    simp only [intsD, Option.some.injEq] at e; subst e
    exact h
  | .int b :: ds, bs, vs, e, h => by
    obtain ⟨bs', e1, e2⟩ := Option.map_eq_some_iff.mp (show (intsD ds).map (b :: ·) = some bs from e)
    unfold RepL at h
    obtain ⟨v, vs', ev, r, t⟩ := h
    subst ev e2
    rw [intsD_rep e1 t]
    cases (show v = V.int b from r)
    rfl
  | .non :: _, _, _, e, _ => nomatch e
  | .bl _ :: _, _, _, e, _ => nomatch e
  | .str _ :: _, _, _, e, _ => nomatch e
  | .tup _ :: _, _, _, e, _ => nomatch e
  | .lst _ :: _, _, _, e, _ => nomatch e
  | .dct _ _ :: _, _, _, e, _ => nomatch e
  | .obj _ _ :: _, _, _, e, _ => nomatch e
  | .scr _ :: _, _, _, e, _ => nomatch e
theorem strsD_rep {R : RCx} {F : Hp} : ∀ {ds : List D} {bs : List (List Nat)} {vs : List V}, strsD ds = some bs → RepL R F ds vs → vs = (bs.map fun s => (⟨s.toArray⟩ : Str)).map V.str
  | [], bs, vs, e, h => by
    simp only [strsD, Option.some.injEq] at e; subst e
    exact h
  | .str b :: ds, bs, vs, e, h => by
    obtain ⟨bs', e1, e2⟩ := Option.map_eq_some_iff.mp (show (strsD ds).map (b :: ·) = some bs from e)
    unfold RepL at h
    obtain ⟨v, vs', ev, r, t⟩ := h
    subst ev e2
    rw [strsD_rep e1 t]
    cases (show v = strV b from r)
    rfl
  | .non :: _, _, _, e, _ => nomatch e
  | .bl _ :: _, _, _, e, _ => nomatch e
  | .int _ :: _, _, _, e, _ => nomatch e
  | .tup _ :: _, _, _, e, _ => nomatch e
  | .lst _ :: _, _, _, e, _ => nomatch e
  | .dct _ _ :: _, _, _, e, _ => nomatch e
  | .obj _ _ :: _, _, _, e, _ => nomatch e
  | .scr _ :: _, _, _, e, _ => nomatch e
theorem maxI_mem : ∀ (m : Int) (l : List Int), maxI m l ∈ m :: l ∧ ∀ y ∈ m :: l, y ≤ maxI m l
  | m, [] => ⟨List.mem_cons_self, fun y hy => by
    rcases List.mem_cons.mp hy with e | e
    · rw [e]; exact Int.le_refl _
    · cases e⟩
  | m, x :: r => by
    have e0 : maxI m (x :: r) = maxI (if x > m then x else m) r := rfl
    rw [e0]
    obtain ⟨h1, h2⟩ := maxI_mem (if x > m then x else m) r
    refine ⟨?_, fun y hy => ?_⟩
    · rcases List.mem_cons.mp h1 with e | e
      · rw [e]
        split
        · exact List.mem_cons_of_mem _ List.mem_cons_self
        · exact List.mem_cons_self
      · exact List.mem_cons_of_mem _ (List.mem_cons_of_mem _ e)
    · have h3 := h2 _ List.mem_cons_self
      by_cases hx : x > m
      · simp only [hx, if_true] at h2 h3 ⊢
        rcases List.mem_cons.mp hy with e | e
        · subst e; omega
        · exact h2 y e
      · simp only [hx, if_false] at h2 h3 ⊢
        rcases List.mem_cons.mp hy with e | e
        · subst e; exact h3
        · rcases List.mem_cons.mp e with e | e
          · subst e; omega
          · exact h2 y (List.mem_cons_of_mem _ e)
theorem joinN_eq (sep : List Nat) (ss : List (List Nat)) : V.str (Txt.join ⟨sep.toArray⟩ (ss.map fun s => (⟨s.toArray⟩ : Str))) = strV (joinN sep ss) := by
  unfold Txt.join Builtin.Str.glued
  cases ss with
  | nil => rfl
  | cons s r =>
    have : ∀ (r : List (List Nat)) (acc : List Nat), List.foldl (fun acc p => acc ++ sep.toArray ++ p.cps) acc.toArray (r.map fun s => (⟨s.toArray⟩ : Str)) = (acc ++ r.flatMap fun t => sep ++ t).toArray := fun r => by
      induction r with
      | nil => intro acc; simp
      | cons t r ih =>
        intro acc
        rw [List.map_cons, List.foldl_cons]
        have e : acc.toArray ++ sep.toArray ++ (⟨t.toArray⟩ : Str).cps = (acc ++ (sep ++ t)).toArray := by simp
        rw [e, ih, List.flatMap_cons, List.append_assoc, List.append_assoc]
    show V.str ⟨List.foldl (fun acc p => acc ++ sep.toArray ++ p.cps) s.toArray (r.map fun s => (⟨s.toArray⟩ : Str))⟩ = _
    rw [this]
    rfl
theorem sumLen_eq (ss : List (List Nat)) : ((ss.map fun s => (⟨s.toArray⟩ : Str)).map (·.length)).sum = sumLen ss := by
  induction ss with
  | nil => rfl
  | cons s r ih =>
    simp only [List.map_cons, List.sum_cons, sumLen]
    rw [← ih]
    simp [Str.length]
theorem idxD_spec (c : Nat) : ∀ (l : List Nat) (i j : Nat), idxD c l i = some j → ∃ k, j = i + k ∧ l[k]? = some c ∧ ∀ m, m < k → l[m]? ≠ some c
  | [], i, j, e => by simp [idxD] at e
  | x :: r, i, j, e => by
    unfold idxD at e
    split at e
    · rename_i h
      refine ⟨0, by simpa using e.symm, by simp [h], fun m hm => absurd hm (Nat.not_lt_zero _)⟩
    · rename_i h
      obtain ⟨k, h1, h2, h3⟩ := idxD_spec c r (i + 1) j e
      refine ⟨k + 1, by omega, by simpa using h2, fun m hm => ?_⟩
      cases m with
      | zero => simpa using h
      | succ m => simpa using h3 m (by omega)
theorem idxD_occ {c : Nat} {l : List Nat} {j : Nat} (e : idxD c l 0 = some j) : ∃ rest, Builtin.Str.occurrences ⟨l.toArray⟩ ⟨#[c]⟩ 0 (⟨l.toArray⟩ : Str).length 1 = j :: rest := by
  obtain ⟨k, h1, h2, h3⟩ := idxD_spec c l 0 j e
  have hk : j = k := by omega
  subst hk
  rcases PySem.StrLaws.occ_head ⟨l.toArray⟩ ⟨#[c]⟩ 1 (Nat.le_refl _) with ⟨_, hn⟩ | ⟨i, r, h4, h5, h6⟩
  · exact absurd ((PySem.StrLaws.subAt_one ⟨l.toArray⟩ c j).mpr (by simpa using h2)) (hn j)
  · have a1 := (PySem.StrLaws.subAt_one ⟨l.toArray⟩ c i).mp h5
    have a2 : l[i]? = some c := by simpa using a1
    have : i = j := by
      rcases Nat.lt_trichotomy i j with h | h | h
      · exact absurd a2 (h3 i h)
      · exact h
      · exact absurd ((PySem.StrLaws.subAt_one ⟨l.toArray⟩ c j).mpr (by simpa using h2)) (h6 j h)
    subst this
    exact ⟨r, h4⟩
theorem idxL_spec (y : D) : ∀ (l : List D) (i j : Nat), idxL y l i = some j → ∃ k d, j = i + k ∧ l[k]? = some d ∧ eqD d y = true ∧ ∀ m d', m < k → l[m]? = some d' → eqD d' y = false
  | [], i, j, e => by simp [idxL] at e
  | x :: r, i, j, e => by
    unfold idxL at e
    split at e
    · rename_i h
      refine ⟨0, x, by simpa using e.symm, rfl, h, fun m d' hm => absurd hm (Nat.not_lt_zero _)⟩
    · rename_i h
      obtain ⟨k, d, h1, h2, h3, h4⟩ := idxL_spec y r (i + 1) j e
      refine ⟨k + 1, d, by omega, by simpa using h2, h3, fun m d' hm hd => ?_⟩
      cases m with
      | zero =>
        simp only [List.getElem?_cons_zero, Option.some.injEq] at hd
        subst hd
        simpa using h
      | succ m => exact h4 m d' (by omega) (by simpa using hd)

/-! ### built-in functions -/
def rBi (R : RCx) (f : Bi) : List V → Hp → VK → Prop := fun xs H Q => ∃ F ds r, Le F H ∧ RdL R F H ds xs ∧ biD f ds = some r ∧ ∀ z F' H', PSt F H F' H' → VOk R H F' H' r.1 r.2 z → Q z H'
def tyN : Ty → String
  | .int => "int"
  | .bool => "bool"
  | .str => "str"
  | .tuple => "tuple"
  | .list => "list"
section
variable {X : Cx} {R : RCx}
theorem callr_len (hK : X.K = R.K) : CallR X (.builtin "len") (rBi R .len) := by
  intro pins s σ H xs us Q I r h
  obtain ⟨F, ds, q0, l, p, e, q⟩ := h
  have q1 : ∀ z, Rep R F q0.1 z → q0.2 = false → Q z H := fun z h1 h2 => q z F H (.refl l) (by rw [h2]; exact h1)
  match ds, e with
  | [.lst xs], e =>
    simp only [biD, Option.some.injEq] at e; subst e
    obtain ⟨v, rfl, pv⟩ := p.one
    obtain ⟨a, vs, rfl, ha, ra⟩ := pv.lst l
    refine call_len_seq pins s σ H _ us Q I r ⟨a, vs, rfl, .inl (SqL.of ha), ?_⟩
    rw [ra.length]
    exact q1 _ rfl rfl
  | [.scr xs], e =>
    simp only [biD, Option.some.injEq] at e; subst e
    obtain ⟨v, rfl, pv⟩ := p.one
    obtain ⟨a, vs, rfl, ha, ra⟩ := pv.scr l
    refine call_len_seq pins s σ H _ us Q I r ⟨a, vs, rfl, .inl (by rw [hK]; exact ha), ?_⟩
    rw [ra.length]
    exact q1 _ rfl rfl
  | [.tup xs], e =>
    simp only [biD, Option.some.injEq] at e; subst e
    obtain ⟨v, rfl, pv⟩ := p.one
    obtain ⟨a, vs, rfl, ha, ra⟩ := pv.tup l
    refine call_len_seq pins s σ H _ us Q I r ⟨a, vs, rfl, .inr (by rw [hK]; exact ha), ?_⟩
    rw [ra.length]
    exact q1 _ rfl rfl
  | [.str s1], e =>
    obtain ⟨v, rfl, pv⟩ := p.one
    cases pv.str
    simp only [biD] at e
    split at e <;> cases e
    rename_i hz
    refine call_len_str pins s σ H _ us Q I r ⟨_, rfl, by rw [← line_eq]; simpa [Str.length] using hz, ?_⟩
    have : (⟨s1.toArray⟩ : Str).length = s1.length := by simp [Str.length]
    rw [this]
    exact q1 _ rfl rfl
theorem callr_abs : CallR X (.builtin "abs") (rBi R .abs) := by
  intro pins s σ H xs us Q I r h
  obtain ⟨F, ds, q0, l, p, e, q⟩ := h
  match ds, e with
  | [.int i], e =>
    simp only [biD, Option.some.injEq] at e; subst e
    obtain ⟨v, rfl, pv⟩ := p.one
    cases pv.int
    exact call_abs pins s σ H _ us Q I r ⟨i, rfl, q _ F H (.refl l) rfl⟩
theorem callr_tuple (hK : X.K = R.K) : CallR X (.type "tuple") (rBi R .tuple) := by
  intro pins s σ H xs us Q I r h
  obtain ⟨F, ds, q0, l, p, e, q⟩ := h
  match ds, e with
  | [.lst xs], e =>
    simp only [biD, Option.some.injEq] at e; subst e
    obtain ⟨v, rfl, pv⟩ := p.one
    obtain ⟨a, vs, rfl, ha, ra⟩ := pv.lst l
    exact call_tuple_of pins s σ H _ us Q I r ⟨a, vs, rfl, .inl ⟨SqL.of ha, fun p hp => q _ _ _ (.newF l hp) (.newT l hp ra)⟩⟩
  | [.tup xs], e =>
    simp only [biD, Option.some.injEq] at e; subst e
    obtain ⟨v, rfl, pv⟩ := p.one
    obtain ⟨a, vs, rfl, ha, ra⟩ := pv.tup l
    exact call_tuple_of pins s σ H _ us Q I r ⟨a, vs, rfl, .inr ⟨by rw [hK]; exact ha, q _ F H (.refl l) pv.tupF⟩⟩
theorem callr_list (hK : X.K = R.K) : CallR X (.type "list") (rBi R .list) := by
  intro pins s σ H xs us Q I r h
  obtain ⟨F, ds, q0, l, p, e, q⟩ := h
  match ds, e with
  | [.lst xs], e =>
    simp only [biD, Option.some.injEq] at e; subst e
    obtain ⟨v, rfl, pv⟩ := p.one
    obtain ⟨a, vs, rfl, ha, ra⟩ := pv.lst l
    exact call_list_of pins s σ H _ us Q I r ⟨a, vs, rfl, .inl (SqL.of ha), fun p hp => q _ _ _ (.newO l hp) (.newL l hp ra)⟩
  | [.tup xs], e =>
    simp only [biD, Option.some.injEq] at e; subst e
    obtain ⟨v, rfl, pv⟩ := p.one
    obtain ⟨a, vs, rfl, ha, ra⟩ := pv.tup l
    exact call_list_of pins s σ H _ us Q I r ⟨a, vs, rfl, .inr (by rw [hK]; exact ha), fun p hp => q _ _ _ (.newO l hp) (.newL l hp ra)⟩
theorem callr_all (hc : X.calm = true) : CallR X (.builtin "all") (rBi R .all) := by
  intro pins s σ H xs us Q I r h
  obtain ⟨F, ds, q0, l, p, e, q⟩ := h
  match ds, e with
  | [.lst xs], e =>
    obtain ⟨bs, e1, e2⟩ := Option.map_eq_some_iff.mp (show (boolsD xs).map (fun bs => (D.bl (bs.all id), false)) = some q0 from e)
    subst e2
    obtain ⟨v, rfl, pv⟩ := p.one
    obtain ⟨a, vs, rfl, ha, ra⟩ := pv.lst l
    have ev := boolsD_rep e1 ra
    subst ev
    exact cr_all hc pins s σ H _ us Q I r ⟨a, bs, rfl, SqL.of ha, q _ F H (.refl l) rfl⟩
theorem callr_max (hc : X.calm = true) : CallR X (.builtin "max") (rBi R .maxL) := by
  intro pins s σ H xs us Q I r h
  obtain ⟨F, ds, q0, l, p, e, q⟩ := h
  match ds, e with
  | [.lst xs], e =>
    obtain ⟨v, rfl, pv⟩ := p.one
    obtain ⟨a, vs, rfl, ha, ra⟩ := pv.lst l
    simp only [biD] at e
    split at e <;> cases e
    rename_i i is e1
    have ev := intsD_rep e1 ra
    subst ev
    refine cr_max hc pins s σ H _ us Q I r ⟨a, _, rfl, SqL.of ha, by simp, fun m hm hy => ?_⟩
    obtain ⟨h1, h2⟩ := maxI_mem i is
    have : m = maxI i is := by
      have a1 := hy _ h1
      have a2 := h2 _ hm
      omega
    subst this
    exact q _ F H (.refl l) rfl
theorem callr_min2 (hc : X.calm = true) : CallR X (.builtin "min") (rBi R .min2) := by
  intro pins s σ H xs us Q I r h
  obtain ⟨F, ds, q0, l, p, e, q⟩ := h
  match ds, e with
  | [.int i, .int j], e =>
    simp only [biD, Option.some.injEq] at e; subst e
    obtain ⟨v, v', rfl, pv, pv'⟩ := p.two
    cases pv.int; cases pv'.int
    exact call_min2 hc pins s σ H _ us Q I r ⟨i, j, rfl, q _ F H (.refl l) rfl⟩
theorem callr_max2 (hc : X.calm = true) : CallR X (.builtin "max") (rBi R .max2) := by
  intro pins s σ H xs us Q I r h
  obtain ⟨F, ds, q0, l, p, e, q⟩ := h
  match ds, e with
  | [.int i, .int j], e =>
    simp only [biD, Option.some.injEq] at e; subst e
    obtain ⟨v, v', rfl, pv, pv'⟩ := p.two
    cases pv.int; cases pv'.int
    exact call_max2 hc pins s σ H _ us Q I r ⟨i, j, rfl, q _ F H (.refl l) rfl⟩
theorem callr_dict (hP : X.prog = R.P) (hw : X.w = R.w) (hu : X.A.units + 65 < cLine) (hc : X.calm = true) (hK : X.K = R.K) : CallR X (.type "dict") (rBi R .dictOf) := by
  intro pins s σ H xs us Q I r h
  obtain ⟨F, ds, q0, l, p, e, q⟩ := h
  match ds, e with
  | [.lst ps], e =>
    obtain ⟨kvs, e1, e2⟩ := Option.map_eq_some_iff.mp (show (pairsD ps).map (fun kvs => (D.dct (mergeD kvs ([], [])).1 (mergeD kvs ([], [])).2, false)) = some q0 from e)
    subst e2
    obtain ⟨v, rfl, pv⟩ := p.one
    obtain ⟨a, vs, rfl, ha, ra⟩ := pv.lst l
    obtain ⟨u, eu, rx⟩ := vals1 r
    subst eu
    cases rx
    exact dct_new hP hw hK hc (by omega) I l ha ra e1 fun p' xs' s' hp I' rp => ⟨.ref p', _, I', rfl, q _ _ _ (.newF l hp) rp⟩
theorem callr_int : CallR X (.type "int") (rBi R .intOf) := by
  intro pins s σ H xs us Q I r h
  obtain ⟨F, ds, q0, l, p, e, q⟩ := h
  match ds, e with
  | [.int i], e =>
    simp only [biD, Option.some.injEq] at e; subst e
    obtain ⟨v, rfl, pv⟩ := p.one
    cases pv.int
    exact call_int1 pins s σ H _ us Q I r (.inl ⟨i, rfl, q _ F H (.refl l) rfl⟩)
  | [.bl b], e =>
    simp only [biD, Option.some.injEq] at e; subst e
    obtain ⟨v, rfl, pv⟩ := p.one
    cases pv.bl
    exact call_int1 pins s σ H _ us Q I r (.inr ⟨b, rfl, q _ F H (.refl l) rfl⟩)
end

/-! ### isinstance of plain data -/
def kindD : D → Option String
  | .non => some "NoneType"
  | .bl _ => some "bool"
  | .int _ => some "int"
  | .str _ => some "str"
  | .tup _ => some "tuple"
  | .lst _ => some "list"
  | .scr _ => some "list"
  | _ => none
theorem TyX_of {R : RCx} {F H : Hp} (l : Le F H) {d : D} {v : V} (h : RdR R F H d v) {k : String} (e : kindD d = some k) : TyX R.K H v (.type k) := by
  cases d with
  | non => cases e; cases h.non; exact .base .non
  | bl b => cases e; cases h.bl; exact .base (.bl b)
  | int i => cases e; cases h.int; exact .base (.int i)
  | str s => cases e; cases h.str; exact .base (.str _)
  | tup xs =>
    cases e
    obtain ⟨a, vs, rfl, q, _⟩ := h.tup l
    rcases q with (q | ⟨o, q⟩) | ⟨o, its, n, q, c, _⟩
    · exact .base (.tup q)
    · exact .fTuple q
    · exact .kTuple q c
  | lst xs =>
    cases e
    obtain ⟨a, vs, rfl, q, _⟩ := h.lst l
    exact .base (.lst q)
  | scr xs =>
    cases e
    obtain ⟨a, vs, rfl, q, _⟩ := h.scr l
    rcases q with (q | ⟨o, q⟩) | ⟨o, its, n, q, c, _⟩
    · exact .base (.lst q)
    · exact .base (.frz q)
    · exact .kList q c
  | _ => cases e
/-- isinstance, by the kind of the datum -/
def isiK (t : Ty) (k : String) : Bool := k == tyN t || (k == "bool" && tyN t == "int")
theorem isi_kit (t : Ty) (d : D) (k : String) (e : kindD d = some k) (hs : ∀ xs, d ≠ .scr xs) : kitB k (tyN t) = some (isiD t d) := by
  have h1 : kitB k (tyN t) = some (isiK t k) := by
    cases d <;> first
      | (exact absurd rfl (hs _))
      | (cases e; cases t <;> decide +kernel)
      | (cases e)
  rw [h1]
  cases d <;> cases t <;> first
    | (exact absurd rfl (hs _))
    | (cases e; rfl)
    | (cases e)
theorem callr_isi {X : Cx} {R : RCx} (hK : X.K = R.K) (t : Ty) : CallR X (.builtin "isinstance") (fun xs H Q => ∃ F d x, Le F H ∧ xs = [x, .ty (tyN t)] ∧ RdR R F H d x ∧ (kindD d).isSome = true ∧ (∀ xs, d ≠ .scr xs) ∧ Q (.bl (isiD t d)) H) := by
  intro pins s σ H xs us Q I r h
  obtain ⟨F, d, x, l, e, px, hk, hs, q⟩ := h
  obtain ⟨k, ek⟩ := Option.isSome_iff_exists.mp hk
  exact call_isi pins s σ H xs us Q I r ⟨x, _, _, _, _, e, .ty _, by rw [hK]; exact TyX_of l px ek, kit_ty (isi_kit t d k ek hs), q⟩
theorem boot_ty (t : Ty) : bootBuiltins (Str.ofString (tyN t)) = some (.type (tyN t)) := by
  cases t
  · exact boot_int
  · exact boot_bool
  · exact boot_str
  · exact boot_tuple
  · exact boot_list
/-! ### methods -/
def rMt (R : RCx) (m : Mt) : V → List V → Hp → VK → Prop := fun x xs H Q => ∃ F d ds r, Le F H ∧ RdR R F H d x ∧ RdL R F H ds xs ∧ mtD m d ds = some r ∧ ∀ z F' H', PSt F H F' H' → VOk R H F' H' r.1 r.2 z → Q z H'
def mtId : Mt → Bool → String
  | .index, true => "str.index"
  | .index, false => "list.index"
  | .join, _ => "str.join"
  | .split, _ => "str.split"
  | .startswith, _ => "str.startswith"
  | .rjust, _ => "str.rjust"
section
variable {X : Cx} {R : RCx}
theorem mtr_sindex : MtR X "str.index" (fun x xs H Q => rMt R .index x xs H Q ∧ ∃ s, x = .str s) := by
  intro pins s σ H x xs v us Q I rx rs h
  obtain ⟨⟨F, d, ds, r, l, pd, pl, e, q⟩, s1, ex⟩ := h
  subst ex
  match d, ds, e with
  | .str t, [.str [c]], e =>
    cases pd.str
    obtain ⟨y, rfl, py⟩ := pl.one
    cases py.str
    obtain ⟨i, e1, e2⟩ := Option.map_eq_some_iff.mp (show (idxD c t 0).map (fun i : Nat => (D.int i, false)) = some r from e)
    obtain ⟨rest, ho⟩ := idxD_occ e1
    exact mt_sindex pins s σ H _ _ v us Q I rx rs ⟨_, _, i, rest, rfl, rfl, ho, q _ F H (.refl l) (by rw [← e2]; rfl)⟩
  | .lst ys, [y], e =>
    obtain ⟨a, vs, z, _⟩ := pd.lst l
    cases z
theorem toPds_get : ∀ {l : List D} {k : Nat}, (toPds l)[k]? = (l[k]?).map toPd
  | [], k => by simp [toPds]
  | d :: r, 0 => by simp [toPds]
  | d :: r, k + 1 => by simpa [toPds] using toPds_get (l := r) (k := k)
theorem shals_get : ∀ {n : Nat} {l : List D} {k : Nat} {d : D}, shals n l = true → l[k]? = some d → shal n d = true
  | n, [], k, d, _, e => by simp at e
  | n, x :: r, 0, d, h, e => by
    unfold shals at h
    simp at e; subst e
    exact (Bool.and_eq_true_iff.mp h).1
  | n, x :: r, k + 1, d, h, e => by
    unfold shals at h
    exact shals_get (Bool.and_eq_true_iff.mp h).2 (by simpa using e)
theorem mtr_lindex (hu : X.A.units + 65 < cLine) (hK : X.K = R.K) : MtR X "list.index" (fun x xs H Q => rMt R .index x xs H Q ∧ ∃ a, x = .ref a) := by
  intro pins s σ H x xs v us Q I rx rs h
  obtain ⟨⟨F, d, ds, r, l, pd, pl, e, q⟩, a0, ex⟩ := h
  subst ex
  match d, ds, e with
  | .str t, [.str [c]], e => cases pd.str
  | .lst ys, [y], e =>
    simp only [mtD] at e
    split at e
    · rename_i hh
      obtain ⟨hy, hys⟩ := Bool.and_eq_true_iff.mp hh
      obtain ⟨i, e1, e2⟩ := Option.map_eq_some_iff.mp (show (idxL y ys 0).map (fun i : Nat => (D.int i, false)) = some r from e)
      obtain ⟨z, rfl, pz⟩ := pl.one
      obtain ⟨k, dd, hk, hg, heq, hno⟩ := idxL_spec y ys 0 i e1
      have hik : i = k := by omega
      subst hik
      have hsl : shal 41 (.lst ys) = true := by unfold shal; exact hys
      have dpl := pd.dp l hsl
      have dpy := pz.dp l hy
      have sy := shal_shaped hy
      have sl : SeqAt.shaped (toPd (.lst ys)) = true := by
        obtain ⟨a, b⟩ := shal_lay 41 _ hsl
        unfold SeqAt.shaped
        rw [a, Bool.true_and]
        exact decide_eq_true (by omega)
      rw [toPd] at dpl sl
      refine mt_indexD hu pins s σ H _ _ v us Q I rx rs ⟨a0, z, toPd y, toPds ys, i, toPd dd, rfl, rfl, by rw [hK]; exact dpl, by rw [hK]; exact dpy, sl, sy, by rw [toPds_get, hg]; rfl, ?_, fun m z' hm hz => ?_, q _ F H (.refl l) (by rw [← e2]; rfl)⟩
      · rw [eqv_toPd 40 _ _ (shals_get hys hg) hy]; exact heq
      · rw [toPds_get] at hz
        obtain ⟨d', hd', rfl⟩ := Option.map_eq_some_iff.mp hz
        rw [eqv_toPd 40 _ _ (shals_get hys hd') hy]
        exact hno m d' hm hd'
    · cases e
theorem mtr_join (hK : X.K = R.K) : MtR X "str.join" (rMt R .join) := by
  intro pins s σ H x xs v us Q I rx rs h
  obtain ⟨F, d, ds, r, l, pd, pl, e, q⟩ := h
  match d, ds, e with
  | .str t, [.lst ys], e =>
    cases pd.str
    obtain ⟨z, rfl, pz⟩ := pl.one
    obtain ⟨a, vs, rfl, ha, ra⟩ := pz.lst l
    simp only [mtD] at e
    split at e
    · rename_i ss hss
      split at e
      · rename_i hz
        cases e
        have ev := strsD_rep hss ra
        subst ev
        refine mt_join pins s σ H _ _ v us Q I rx rs ⟨_, a, _, rfl, rfl, .inl (SqL.of ha), ?_, ?_⟩
        · rw [sumLen_eq]
          simpa [Str.length, line] using hz
        · rw [joinN_eq]
          exact q _ F H (.refl l) rfl
      · cases e
    · cases e
end
end PK
end
section
set_option Elab.async false
set_option linter.all false
set_option maxRecDepth 100000
set_option maxHeartbeats 4000000
/-! PkIter: what is walked: lists, tuples, texts, ranges, and zip and enumerate over any of these. -/
namespace PK
open PySem PySem.Spec PyProof.Rows L2

/-- what can be walked by place -/
inductive SK where
  | l (a : Addr)
  | t (a : Addr)
  | s (x : Str)
def SK.v : SK → V
  | .l a => .ref a
  | .t a => .ref a
  | .s x => .str x
def signs (x : Str) : List V := x.cps.toList.map fun c => V.str ⟨#[c]⟩
def SK.at (K : PySem.W.Frag) (H : Hp) : SK → List V → Prop
  | .l a, xs => SqL K H a xs
  | .t a, xs => SqT K H a xs
  | .s x, xs => xs = signs x
def SK.fp : SK → Addr → List Addr
  | .l a, it => [it, a]
  | .t a, it => [it, a]
  | .s _, it => [it]
def SK.old : SK → List Addr
  | .l a => [a]
  | .t a => [a]
  | .s _ => []
theorem SK.fp_eq (p : SK) (it : Addr) : p.fp it = it :: p.old := by cases p <;> rfl
/-- the iterator `it` over p, behind i items -/
def SK.St (k : Tok) (it : Addr) (i : Nat) (h : Heap) : SK → Prop
  | .l a => h.IsListIter it a i ∧ a ≠ it
  | .t a => h.IsTupleIter it a i ∧ a ≠ it
  | .s x => h.IsStrIter it (strIterType x) x k i
theorem SK.St.ob {k : Tok} {it : Addr} {i : Nat} {h : Heap} {p : SK} (st : p.St k it i h) : ∃ o, h.get? it = some o ∧ ∀ v, o.data ≠ .cell v := by
  cases p with
  | l a => obtain ⟨⟨o, e, _, d⟩, _⟩ := st; exact ⟨o, e, fun v z => by rw [d] at z; cases z⟩
  | t a => obtain ⟨⟨o, e, _, d⟩, _⟩ := st; exact ⟨o, e, fun v z => by rw [d] at z; cases z⟩
  | s x => obtain ⟨o, e, _, d⟩ := st; exact ⟨o, e, fun v z => by rw [d] at z; cases z⟩
theorem SK.St.keep {k : Tok} {it : Addr} {i : Nat} {h h' : Heap} {p : SK} (st : p.St k it i h) (hk : ∀ o, h.get? it = some o → h'.get? it = some o) : p.St k it i h' := by
  cases p with
  | l a => exact ⟨st.1.at hk, st.2⟩
  | t a => exact ⟨st.1.at hk, st.2⟩
  | s x => obtain ⟨o, ho, r⟩ := st; exact ⟨o, hk o ho, r⟩
/-- what stands ahead of iter(v) -/
structure SBeg (K : PySem.W.Frag) (p : SK) (u : Value) (h : Heap) (o : Obj) (Hb : Heap → Prop) (k : Tok) : Prop where
  beg : Begins u o Hb
  now : Hb h
  lt : ∀ a ∈ p.old, a < h.objs.size
  st : ∀ (h' : Heap) it, (∀ a ∈ p.old, a ≠ it) → h'.get? it = some o → p.St k it 0 h'
section
variable {X : Cx} {pins : List (Addr × Obj)} {σ : L2.St} {H : Hp} {s : Shared}
theorem SK.inj (I : Inv X pins σ H s) {p : SK} {xs ys : List V} (h : p.at X.K H xs) (h' : p.at X.K H ys) : xs = ys := by
  cases p with
  | l a => exact I.list_inj h h'
  | t a => exact I.tuple_inj h h'
  | s x => exact Eq.trans h (Eq.symm h')
/-- what the iterator draws, now -/
theorem SK.draws (I : Inv X pins σ H s) (hh : X.A.handled = none) {p : SK} {xs : List V} {k : Tok} {it : Addr} {i : Nat} (h : p.at X.K H xs) (st : p.St k it i s.heap) :
    ∃ (P : Nat → Value → Prop) (St : Nat → Heap → Prop), Draws X.prog X.w X.A.in1 it (p.fp it) xs.length P St ∧ St i s.heap ∧ (∀ i u, P i u → ∃ x, xs[i]? = some x ∧ RelV x u) ∧ ∀ i h, St i h → p.St k it i h := by
  cases p with
  | l a =>
    obtain ⟨its, rv, pl, _⟩ := I.list h
    have el : xs.length = its.toArray.size := by rw [List.size_toArray]; exact rv.length
    rw [el]
    refine ⟨_, _, Draws.list (A := X.A.in1) hh it a st.2 its.toArray, ⟨st.1, pl.isList⟩, fun j u e => ?_, fun j h q => ⟨q.1, st.2⟩⟩
    have e' : its[j]? = some u := by simpa using e
    have hj : j < xs.length := by
      have := (List.getElem?_eq_some_iff.mp e').1
      have := rv.length
      omega
    obtain ⟨u', hu, ru⟩ := rv.get (List.getElem?_eq_getElem hj)
    rw [e'] at hu; cases hu
    exact ⟨_, List.getElem?_eq_getElem hj, ru⟩
  | t a =>
    obtain ⟨its, rv, pl, _⟩ := I.tuple h
    have el : xs.length = its.toArray.size := by rw [List.size_toArray]; exact rv.length
    rw [el]
    refine ⟨_, _, Draws.tuple (A := X.A.in1) hh it a st.2 its.toArray, ⟨st.1, pl⟩, fun j u e => ?_, fun j h q => ⟨q.1, st.2⟩⟩
    have e' : its[j]? = some u := by simpa using e
    have hj : j < xs.length := by
      have := (List.getElem?_eq_some_iff.mp e').1
      have := rv.length
      omega
    obtain ⟨u', hu, ru⟩ := rv.get (List.getElem?_eq_getElem hj)
    rw [e'] at hu; cases hu
    exact ⟨_, List.getElem?_eq_getElem hj, ru⟩
  | s x =>
    have h' : xs = signs x := h
    subst h'
    have el : (signs x).length = x.cps.size := by simp [signs]
    rw [el]
    refine ⟨_, _, Draws.text (A := X.A.in1) hh it x k, st, fun j u e => ?_, fun j h q => q⟩
    obtain ⟨c, t, e1, rfl⟩ := e
    exact ⟨.str ⟨#[c]⟩, by simp [signs, e1], ⟨t, rfl⟩⟩
/-- how it begins -/
theorem SK.begins (I : Inv X pins σ H s) {p : SK} {xs : List V} {u : Value} (h : p.at X.K H xs) (r : RelV p.v u) : ∃ o Hb k, SBeg X.K p u s.heap o Hb k := by
  cases p with
  | l a =>
    cases (show u = .ref a from r)
    obtain ⟨its, rv, pl, _⟩ := I.list h
    refine ⟨_, _, 0, begins_list a its.toArray, pl.isList, fun b hb => ?_, fun h' it hn e => ⟨⟨_, e, rfl, rfl⟩, hn a (by simp [SK.old])⟩⟩
    rw [List.mem_singleton.mp hb]; exact pl.lt
  | t a =>
    cases (show u = .ref a from r)
    obtain ⟨its, rv, pl, _⟩ := I.tuple h
    obtain ⟨o, ho, hc, n, hd⟩ := id pl
    refine ⟨_, _, 0, begins_tuple a its.toArray, pl, fun b hb => ?_, fun h' it hn e => ⟨⟨_, e, rfl, rfl⟩, hn a (by simp [SK.old])⟩⟩
    rw [List.mem_singleton.mp hb]; exact Heap.lt_size ho
  | s x =>
    obtain ⟨t, rfl⟩ := (show ∃ t, u = .str x t from r)
    exact ⟨_, _, t, begins_text x t, trivial, fun b hb => (nomatch hb), fun h' it hn e => ⟨_, e, rfl, rfl⟩⟩
end
/-- pairs out of two sources -/
def ItZ (K : PySem.W.Frag) (p q : SK) : It :=
  ⟨fun i H => ∃ (xs ys : List V) (x y : V), p.at K H xs ∧ q.at K H ys ∧ xs[i]? = some x ∧ ys[i]? = some y,
    fun i H v H' => ∃ T x y, v = .ref T ∧ H T = none ∧ H' = upd H T (.tup [x, y]) ∧ (∀ xs, p.at K H xs → xs[i]? = some x) ∧ ∀ ys, q.at K H ys → ys[i]? = some y,
    fun i H => ∃ xs ys : List V, p.at K H xs ∧ q.at K H ys ∧ i ≤ xs.length ∧ i ≤ ys.length ∧ (xs.length = i ∨ ys.length = i)⟩
theorem turn_Z {P : Program} {w : World} {K : PySem.W.Frag} {elts : List Expr} {kk : Nat} {tpos : Pos} {p q : SK} {z TI TO i1 i2 : Addr} {k1 k2 : Tok} (S : ZipSep2 z TI TO i1 i2 (p.fp i1) (q.fp i2)) :
    Turn P w K (.Tuple elts kk tpos) (ItZ K p q) [z, TI, TO, i1, i2] z (fun i h => IsZip h z TI TO .none ∧ IsTupOf2 h TI (.ref i1) (.ref i2) ∧ (∃ x y, IsTupOf2 h TO x y) ∧ p.St k1 i1 i h ∧ q.St k2 i2 i h) where
  mem := by simp
  obj := fun i h st c hc => by
    obtain ⟨hz, hTI, ⟨x, y, hTO⟩, s1, s2⟩ := st
    have e' : c = z ∨ c = TI ∨ c = TO ∨ c = i1 ∨ c = i2 := by simpa using hc
    rcases e' with e | e | e | e | e
    · rw [e]; exact ⟨_, hz, fun v q => nomatch q⟩
    · rw [e]; exact ⟨_, hTI, fun v q => nomatch q⟩
    · rw [e]; exact ⟨_, hTO, fun v q => nomatch q⟩
    · rw [e]; exact s1.ob
    · rw [e]; exact s2.ob
  keep := fun i h h' st k => by
    obtain ⟨hz, hTI, ⟨x, y, hTO⟩, s1, s2⟩ := st
    exact ⟨k z (by simp) _ hz, k TI (by simp) _ hTI, ⟨x, y, k TO (by simp) _ hTO⟩, s1.keep fun o e => k i1 (by simp) o e, s2.keep fun o e => k i2 (by simp) o e⟩
  item := by
    intro X hP hw hK hc i pins s σ H E I hf st hg
    subst hP hw hK
    obtain ⟨hz, hTI, ⟨x0, y0, hTO⟩, s1, s2⟩ := st
    obtain ⟨xs, ys, x, y, ax, ay, hx, hy⟩ := hg
    obtain ⟨P1, St1, D1, t1, r1, b1⟩ := SK.draws I (I.ok.hd hc) ax s1
    obtain ⟨P2, St2, D2, t2, r2, b2⟩ := SK.draws I (I.ok.hd hc) ay s2
    have hzl : z < s.heap.objs.size := Heap.lt_size hz
    refine wpAny_pyNext_zipD2_item S D1 D2 hz hTI hTO t1 t2 (List.getElem?_eq_some_iff.mp hx).1 (List.getElem?_eq_some_iff.mp hy).1 fun u u2 h' tk pu pu2 z' TO' h1' h2' hT hsz hk => ?_
    obtain ⟨x', hx', ru⟩ := r1 _ _ pu
    obtain ⟨y', hy', ru2⟩ := r2 _ _ pu2
    rw [hx] at hx'; cases hx'
    rw [hy] at hy'; cases hy'
    refine ⟨_, rfl, wpAny_letOwnedTupleGo_zip (s := { s with heap := h', toks := tk }) z' fun h'' z'' sb => ?_⟩
    have hT2 : h''.get? s.heap.objs.size = some { cls := .type "tuple", data := .seq #[u, u2] } := (sb.2 _ (Nat.ne_of_gt hzl)).trans hT
    have I1 : Inv X pins σ (upd H s.heap.objs.size (.tup [x, y])) { s with heap := h'', toks := tk } :=
      I.turnedNew (ch := [z, TI, TO, i1, i2]) (fun c o hb e => by
        simp only [List.mem_cons, List.not_mem_nil, or_false, not_or] at hb
        exact (sb.2 c hb.1).trans (hk c o hb.1 hb.2.2.1 hb.2.2.2.1 hb.2.2.2.2 e)) hf (Nat.le_refl _)
        ⟨by show 2 ≤ sizeLine; decide, [u, u2], .cons ru (.cons ru2 .nil), ⟨_, hT2, rfl, _, rfl⟩⟩
    refine ⟨.ref s.heap.objs.size, _, I1, rfl, ⟨_, x, y, rfl, I.hok.fresh (Nat.le_refl _), rfl, fun l hl => by rw [SK.inj I hl ax]; exact hx, fun l hl => by rw [SK.inj I hl ay]; exact hy⟩, ⟨z'', ?_, ⟨u, u2, ?_⟩, ?_, ?_⟩, fun c hcm => ?_⟩
    · exact (sb.2 _ S.TIz).trans (hk _ _ S.TIz S.TITO S.TIi1 S.TIi2 hTI)
    · exact (sb.2 _ S.TOz).trans TO'
    · exact (b1 _ _ h1').keep fun o e => (sb.2 _ (Ne.symm S.zi1)).trans e
    · exact (b2 _ _ h2').keep fun o e => (sb.2 _ (Ne.symm S.zi2)).trans e
    · have hlt : c < s.heap.objs.size := by
        have e' : c = z ∨ c = TI ∨ c = TO ∨ c = i1 ∨ c = i2 := by simpa using hcm
        rcases e' with e | e | e | e | e
        · rw [e]; exact hzl
        · rw [e]; exact Heap.lt_size hTI
        · rw [e]; exact Heap.lt_size hTO
        · rw [e]; obtain ⟨_, e1, _⟩ := s1.ob; exact Heap.lt_size e1
        · rw [e]; obtain ⟨_, e1, _⟩ := s2.ob; exact Heap.lt_size e1
      rw [upd_ne (Nat.ne_of_lt hlt)]
      exact (hf c hcm).1
  done := by
    intro X hP hw hK hc i pins s σ H E I hf st hg
    subst hP hw hK
    obtain ⟨hz, hTI, ⟨x0, y0, hTO⟩, s1, s2⟩ := st
    obtain ⟨xs, ys, ax, ay, l1, l2, hend⟩ := hg
    obtain ⟨P1, St1, D1, t1, r1, b1⟩ := SK.draws I (I.ok.hd hc) ax s1
    obtain ⟨P2, St2, D2, t2, r2, b2⟩ := SK.draws I (I.ok.hd hc) ay s2
    exact wpAny_pyNext_zipD2_end S D1 D2 hz hTI hTO t1 t2 l1 l2 (by omega) fun h' tk hk => ⟨rfl, I.turnedL (ch := [z, TI, TO, i1, i2]) (fun c o hb e => by
      simp only [List.mem_cons, List.not_mem_nil, or_false, not_or] at hb
      exact hk c o hb.1 hb.2.2.1 hb.2.2.2.1 hb.2.2.2.2 e) hf⟩
  self := fun A i s Q E st h => wpAny_pyIter_zip st.1 h
def iZ (K : PySem.W.Frag) (ta : TA) : TI := fun σ H R => ta σ H fun vs H1 => ∃ p q xs ys, vs = [SK.v p, SK.v q] ∧ p.at K H1 xs ∧ q.at K H1 ys ∧ R (ItZ K p q) H1
theorem pi_Z {X : Cx} {e e2 : Expr} {ta : TA} {p pos tpos : Pos} {elts : List Expr} {kk : Nat} (hg : L2.Gl X "zip") (hm : X.mg "zip" = none) (ha : PA X [e, e2] ta)
    (hs : starEach [e, e2] X.env = (false, eval e X.env) :: starEach [e2] X.env) (hpl : (backTo pos (starEach [e2] X.env)).any (·.1) = false) :
    PI X (.Tuple elts kk tpos) (.Call (.Name "zip" p) [e, e2] [] pos) (iZ X.K ta) := by
  refine ⟨fun pins s σ H R I h => ?_⟩
  refine Call_ (ld_blt I hg hm PyProof.Rows.boot_zip (PyProof.Rows.callWith_type1 (thn (ha.run pos pins s σ H _ I h) fun us s1 ⟨vs, H1, I1, r1, q1⟩ => ?_) hs hpl))
  obtain ⟨p1, p2, xs, ys, ex, a1, a2, qq⟩ := q1
  subst ex
  obtain ⟨u1, u2, eu, ru1, ru2⟩ : ∃ u1 u2, us = [u1, u2] ∧ RelV p1.v u1 ∧ RelV p2.v u2 := by
    cases r1 with
    | cons r rr =>
      cases rr with
      | cons r' rr =>
        cases rr
        exact ⟨_, _, rfl, r, r'⟩
  subst eu
  obtain ⟨o1, Hb1, k1, B1⟩ := SK.begins I1 a1 ru1
  obtain ⟨o2, Hb2, k2, B2⟩ := SK.begins I1 a2 ru2
  refine zip_begins2 B1.beg B2.beg B1.now B2.now fun h' hz hTI hTO g1 g2 hsz hk => wpAny_pyIter_zip hz ?_
  have I2 : Inv X pins σ H1 { s1 with heap := h' } := I1.kept (t' := s1.toks) hk
  refine ⟨s1.heap.objs.size + 4, [s1.heap.objs.size + 4, s1.heap.objs.size + 2, s1.heap.objs.size + 3, s1.heap.objs.size, s1.heap.objs.size + 1], _, _, H1, rfl, I2, turn_Z (p := p1) (q := p2) (k1 := k1) (k2 := k2) (i1 := s1.heap.objs.size) (i2 := s1.heap.objs.size + 1) ?_, ⟨hz, hTI, ⟨_, _, hTO⟩, B1.st _ _ (fun a ha => Nat.ne_of_lt (B1.lt a ha)) g1, B2.st _ _ (fun a ha => Nat.ne_of_lt (Nat.lt_succ_of_lt (B2.lt a ha))) g2⟩, fun c hcm => ?_, qq⟩
  · rw [SK.fp_eq, SK.fp_eq]
    exact zip_sep2 B1.lt B2.lt
  · have hle : s1.heap.objs.size ≤ c := by
      have e' : c = s1.heap.objs.size + 4 ∨ c = s1.heap.objs.size + 2 ∨ c = s1.heap.objs.size + 3 ∨ c = s1.heap.objs.size ∨ c = s1.heap.objs.size + 1 := by simpa using hcm
      rcases e' with z | z | z | z | z <;> rw [z] <;> first | exact Nat.le_refl _ | exact Nat.le_add_right _ _
    exact I1.fpOk hle (I1.hok.fresh hle)

/-! ### enumerate -/
theorem meets_enum {v : Value} {o : Obj} {Hb : Heap → Prop} (B : Begins v o Hb) :
    Meets (Builtin.«enumerate.__new__» ⟨[.type "enumerate", v], []⟩) (fun _ R s => Hb s.heap ∧
      R (.ok (.ret (.ref (s.heap.push o).objs.size))) { s with heap := (s.heap.push o).push { cls := .type "enumerate", data := .fields #[.none, .bool false, .ref s.heap.objs.size, rawInt 0, .none, .none] } }) :=
  .of_wp fun prog w A R s h => by
    obtain ⟨hp, g, d, tk, os⟩ := s
    obtain ⟨h1, h⟩ := h
    have hsub := sub_enumerate
    have qi : ∀ {A' : Around} {E : Value → Shared → Prop} {Q : Value → Shared → Prop}, Q (.ref hp.objs.size) ⟨hp.push o, g, d, tk, os⟩ → wpAny (model prog w) A' (pyIter v) Q E ⟨hp, g, d, tk, os⟩ := fun z => B.iter prog w _ _ _ _ h1 z
    wp_walk using qi
    refine wpAny_stack_any fun st => wpAny_pure ?_
    split
    · rename_i c _ _ _ _ _
      cases (c == Value.type "enumerate")
      · wp_walk using qi
        exact ⟨_, rfl, h⟩
      · wp_walk using qi
        exact ⟨_, rfl, h⟩
    · wp_walk using qi
      exact ⟨_, rfl, h⟩
theorem call_enum {prog : Program} {w : World} {A : Around} {E : Value → Shared → Prop} {s : Shared} {v : Value} {o : Obj} {Hb : Heap → Prop} {Q : Value → Shared → Prop} (B : Begins v o Hb) (h1 : Hb s.heap)
    (h : ∀ h', IsEnum h' (s.heap.objs.size + 1) s.heap.objs.size 0 .none → h'.get? s.heap.objs.size = some o → h'.objs.size = s.heap.objs.size + 2 →
      (∀ b o, s.heap.get? b = some o → h'.get? b = some o) → Q (.ref (s.heap.objs.size + 1)) { s with heap := h' }) :
    wpAny (model prog w) A (call (.type "enumerate") [v]) Q E s := by
  refine callType_new F.called_enumerate (by decide) (F.typeCall_enumerate_1 _) (F.newCall_enumerate_1 _) (fun obj => F.args_object_init_2 obj _) F.entry_enumerate_new (meets_enum B) ⟨h1, ?_⟩
  have hz : (s.heap.push o).objs.size = s.heap.objs.size + 1 := Heap.size_push ..
  show _ ∧ _
  rw [hz]
  have g := Heap.get?_push_size (s.heap.push o) (o := { cls := .type "enumerate", data := .fields #[.none, .bool false, .ref s.heap.objs.size, rawInt 0, .none, .none] }) rfl
  rw [hz] at g
  exact ⟨⟨_, g, rfl⟩, h _ g (Heap.get?_push_of_some _ (Heap.get?_push_size _ B.free)) (by rw [Heap.size_push, hz]) fun b o x => Heap.get?_push_of_some _ (Heap.get?_push_of_some _ x)⟩
def ItE (K : PySem.W.Frag) (p : SK) : It :=
  ⟨fun i H => ∃ (xs : List V) (x : V), p.at K H xs ∧ xs[i]? = some x,
    fun i H v H' => ∃ T x, v = .ref T ∧ H T = none ∧ H' = upd H T (.tup [.int (i : Nat), x]) ∧ (∀ xs, p.at K H xs → xs[i]? = some x),
    fun i H => ∃ xs : List V, p.at K H xs ∧ xs.length = i⟩
theorem turn_E {P : Program} {w : World} {K : PySem.W.Frag} {elts : List Expr} {kk : Nat} {tpos : Pos} {p : SK} {e it : Addr} {k : Tok} (hne : e ≠ it) (hef : e ∉ p.fp it) :
    Turn P w K (.Tuple elts kk tpos) (ItE K p) [e, it] e (fun i h => (∃ old, IsEnum h e it ((i : Nat) : Int) old) ∧ p.St k it i h) where
  mem := by simp
  obj := fun i h st c hc => by
    obtain ⟨⟨old, he⟩, s1⟩ := st
    have e' : c = e ∨ c = it := by simpa using hc
    rcases e' with z | z
    · rw [z]; exact ⟨_, he, fun v q => nomatch q⟩
    · rw [z]; exact s1.ob
  keep := fun i h h' st k => by
    obtain ⟨⟨old, he⟩, s1⟩ := st
    exact ⟨⟨old, k e (by simp) _ he⟩, s1.keep fun o q => k it (by simp) o q⟩
  item := by
    intro X hP hw hK hc i pins s σ H E I hf st hg
    subst hP hw hK
    obtain ⟨⟨old, he⟩, s1⟩ := st
    obtain ⟨xs, x, ax, hx⟩ := hg
    obtain ⟨P1, St1, D1, t1, r1, b1⟩ := SK.draws I (I.ok.hd hc) ax s1
    have hel : e < s.heap.objs.size := Heap.lt_size he
    refine wpAny_pyNext_enum_itemC D1 he t1 (List.getElem?_eq_some_iff.mp hx).1 hne hef fun u h' tk pu ho hst hT hsz hk => ?_
    obtain ⟨x', hx', ru⟩ := r1 _ _ pu
    rw [hx] at hx'; cases hx'
    refine ⟨_, rfl, wpAny_letOwnedTupleGo_enum (s := { s with heap := h', toks := tk + 1 }) ho fun h'' he' sb => ?_⟩
    have hT2 : h''.get? s.heap.objs.size = some { cls := .type "tuple", data := .seq #[.int i tk, u] } := (sb.2 _ (Nat.ne_of_gt hel)).trans hT
    have I1 : Inv X pins σ (upd H s.heap.objs.size (.tup [.int (i : Nat), x])) { s with heap := h'', toks := tk + 1 } :=
      I.turnedNew (ch := [e, it]) (fun c o hb q => by
        simp only [List.mem_cons, List.not_mem_nil, or_false, not_or] at hb
        exact (sb.2 c hb.1).trans (hk c o hb.1 hb.2 q)) hf (Nat.le_refl _)
        ⟨by show 2 ≤ sizeLine; decide, [.int i tk, u], .cons ⟨_, rfl⟩ (.cons ru .nil), ⟨_, hT2, rfl, _, rfl⟩⟩
    refine ⟨.ref s.heap.objs.size, _, I1, rfl, ⟨_, x, rfl, I.hok.fresh (Nat.le_refl _), rfl, fun l hl => by rw [SK.inj I hl ax]; exact hx⟩, ⟨⟨u, ?_⟩, (b1 _ _ hst).keep fun o q => (sb.2 it (Ne.symm hne)).trans q⟩, fun c hcm => ?_⟩
    · have e1 : ((i + 1 : Nat) : Int) = (i : Int) + 1 := by omega
      rw [e1]; exact he'
    · have hlt : c < s.heap.objs.size := by
        have e' : c = e ∨ c = it := by simpa using hcm
        rcases e' with z | z
        · rw [z]; exact hel
        · rw [z]; obtain ⟨_, e1, _⟩ := s1.ob; exact Heap.lt_size e1
      rw [upd_ne (Nat.ne_of_lt hlt)]
      exact (hf c hcm).1
  done := by
    intro X hP hw hK hc i pins s σ H E I hf st hg
    subst hP hw hK
    obtain ⟨⟨old, he⟩, s1⟩ := st
    obtain ⟨xs, ax, hl⟩ := hg
    obtain ⟨P1, St1, D1, t1, r1, b1⟩ := SK.draws I (I.ok.hd hc) ax s1
    obtain ⟨f0, f1, f2, f3, f4, f5⟩ := hf it (by simp)
    subst hl
    exact wpAny_pyNext_enum_endD D1 he t1 fun h' eb => ⟨rfl, I.turned (t' := s.toks) (fun b o hb q => eb b o hb q) f0 f1 f3 f4 f5⟩
  self := fun A i s Q E st h => let ⟨⟨_, he⟩, _⟩ := st; wpAny_pyIter_enum he h
def iE (K : PySem.W.Frag) (ta : TA) : TI := fun σ H R => ta σ H fun vs H1 => ∃ p xs, vs = [SK.v p] ∧ p.at K H1 xs ∧ R (ItE K p) H1
theorem pi_E {X : Cx} {e : Expr} {ta : TA} {p pos tpos : Pos} {elts : List Expr} {kk : Nat} (hg : L2.Gl X "enumerate") (hm : X.mg "enumerate" = none) (ha : PA X [e] ta) (hs : starEach [e] X.env = [(false, eval e X.env)]) :
    PI X (.Tuple elts kk tpos) (.Call (.Name "enumerate" p) [e] [] pos) (iE X.K ta) := by
  refine ⟨fun pins s σ H R I h => ?_⟩
  refine Call_ (ld_blt I hg hm boot_enumerate (PyProof.Rows.callWith_type1 (thn (ha.run pos pins s σ H _ I h) fun us s1 ⟨vs, H1, I1, r1, q1⟩ => ?_) hs rfl))
  obtain ⟨p1, xs, ex, a1, qq⟩ := q1
  subst ex
  obtain ⟨u1, rfl, ru1⟩ := vals1 r1
  obtain ⟨o1, Hb1, k1, B1⟩ := SK.begins I1 a1 ru1
  refine call_enum B1.beg B1.now fun h' he g1 hsz hk => wpAny_pyIter_enum he ?_
  have I2 : Inv X pins σ H1 { s1 with heap := h' } := I1.kept (t' := s1.toks) hk
  refine ⟨s1.heap.objs.size + 1, [s1.heap.objs.size + 1, s1.heap.objs.size], _, _, H1, rfl, I2, turn_E (p := p1) (k := k1) (it := s1.heap.objs.size) (Nat.succ_ne_self _) ?_, ⟨⟨.none, he⟩, B1.st _ _ (fun a ha => Nat.ne_of_lt (B1.lt a ha)) g1⟩, fun c hcm => ?_, qq⟩
  · rw [SK.fp_eq]
    intro hm
    rcases List.mem_cons.mp hm with z | z
    · exact Nat.succ_ne_self _ z
    · exact absurd (B1.lt _ z) (by simp)
  · have hle : s1.heap.objs.size ≤ c := by
      have e' : c = s1.heap.objs.size + 1 ∨ c = s1.heap.objs.size := by simpa using hcm
      rcases e' with z | z <;> rw [z] <;> first | exact Nat.le_refl _ | exact Nat.le_add_right _ _
    exact I1.fpOk hle (I1.hok.fresh hle)
end PK
end
section
set_option Elab.async false
set_option linter.all false
set_option maxRecDepth 100000
set_option maxHeartbeats 4000000
/-! PkStp: what one step of an expression, of a statement does to names and heaps. -/
namespace PK
open PySem PySem.Spec PyProof.Rows L2

def OwnO (σ : L2.St) (env : Env) (a : Addr) : Prop := ∃ i d, at_ env i = some (.o, d) ∧ σ[i]? = some (some (.ref a))
theorem OwnO.own {σ : L2.St} {env : Env} {a : Addr} : OwnO σ env a → Own σ env a := fun ⟨i, d, h, e⟩ => ⟨i, .o, d, h, by decide, e⟩
/-- a step of statements -/
structure Stp (R : RCx) (F H : Hp) (σ : L2.St) (env : Env) (F' H' : Hp) (σ' : L2.St) (env' : Env) : Prop where
  rep : SRep R F' H' σ' env'
  fr : Fr (Own σ env) (Own σ' env') F H F' H'
  oo : ∀ a, OwnO σ' env' a → OwnO σ env a ∨ H a = none
  io : ∀ i d, at_ env' i = some (.io, d) → (∃ d0, at_ env i = some (.io, d0)) ∧ σ'[i]? = σ[i]?
/-- a step of expressions: the names' values stay, what is held may become less -/
structure StpE (R : RCx) (F H : Hp) (σ : L2.St) (env : Env) (F' H' : Hp) (env' : Env) : Prop where
  rep : SRep R F' H' σ env'
  fr : Fr (Own σ env) (Own σ env') F H F' H'
  sub : ∀ i k d, at_ env' i = some (k, d) → k ≠ .f → ∃ d0, at_ env i = some (k, d0)
section
variable {R : RCx} {F H F' H' F2 H2 : Hp} {σ σ' σ2 : L2.St} {env env' env2 : Env}
theorem own_live (S : SRep R F H σ env) {a : Addr} (h : Own σ env a) : F a = none ∧ ∃ o, H a = some o := by
  obtain ⟨i, k, d, e, hk, hs⟩ := h
  obtain ⟨v, hv, hsl⟩ := S.get i k d e
  rw [hs] at hv
  cases hv
  cases k with
  | f => exact absurd rfl hk
  | o =>
    obtain ⟨b, o, e, f, h, _⟩ := hsl
    cases e
    exact ⟨f, o, h⟩
  | io =>
    obtain ⟨b, o, e, f, h, _⟩ := hsl
    cases e
    exact ⟨f, o, h⟩
theorem StpE.ownSub (s : StpE R F H σ env F' H' env') {a : Addr} (h : Own σ env' a) : Own σ env a := by
  obtain ⟨i, k, d, e, hk, hs⟩ := h
  obtain ⟨d0, e0⟩ := s.sub i k d e hk
  exact ⟨i, k, d0, e0, hk, hs⟩
theorem StpE.stp (s : StpE R F H σ env F' H' env') : Stp R F H σ env F' H' σ env' where
  rep := s.rep
  fr := s.fr
  oo := fun a ⟨i, d, e, hs⟩ => by
    obtain ⟨d0, e0⟩ := s.sub i _ d e (by decide)
    exact .inl ⟨i, d0, e0, hs⟩
  io := fun i d e => ⟨s.sub i _ d e (by decide), rfl⟩
theorem StpE.refl (S : SRep R F H σ env) : StpE R F H σ env F H env := ⟨S, .refl fun _ h => h, fun i k d e _ => ⟨d, e⟩⟩
theorem Stp.refl (S : SRep R F H σ env) : Stp R F H σ env F H σ env := (StpE.refl S).stp
theorem StpE.trans (a : StpE R F H σ env F' H' env') (b : StpE R F' H' σ env' F2 H2 env2) : StpE R F H σ env F2 H2 env2 :=
  ⟨b.rep, a.fr.trans b.fr, fun i k d e hk => by
    obtain ⟨d0, e0⟩ := b.sub i k d e hk
    exact a.sub i k d0 e0 hk⟩
theorem none_of_live {a : Addr} (h : ∀ o, H a = some o → ∃ o', H' a = some o') (e : H' a = none) : H a = none := by
  cases q : H a with
  | none => rfl
  | some o =>
    obtain ⟨o', e'⟩ := h o q
    rw [e] at e'; cases e'
theorem Stp.trans (a : Stp R F H σ env F' H' σ' env') (b : Stp R F' H' σ' env' F2 H2 σ2 env2) : Stp R F H σ env F2 H2 σ2 env2 :=
  ⟨b.rep, a.fr.trans b.fr, fun c h => by
    rcases b.oo c h with h | h
    · exact a.oo c h
    · exact .inr (none_of_live (fun o => a.fr.live c o) h),
   fun i d e => by
    obtain ⟨⟨d0, e0⟩, q⟩ := b.io i d e
    obtain ⟨h, q'⟩ := a.io i d0 e0
    exact ⟨h, q.trans q'⟩⟩
/-- a step that only makes something new -/
theorem SRep.pst (S : SRep R F H σ env) (p : PSt F H F' H') : SRep R F' H' σ env where
  le := p.le
  len := S.len
  get := fun i k d e => by
    obtain ⟨v, hv, hsl⟩ := S.get i k d e
    refine ⟨v, hv, ?_⟩
    have own : ∀ {a : Addr} {o : HO}, F a = none → H a = some o → CRep R F o d → F' a = none ∧ H' a = some o ∧ CRep R F' o d := fun {a o} hf hh hc => by
      refine ⟨?_, p.keep _ _ hh, hc.mono p.mono⟩
      cases q : F' a with
      | none => rfl
      | some u =>
        rcases p.new a u q with z | z
        · rw [hf] at z; cases z
        · rw [hh] at z; cases z
    cases k with
    | f => exact Rep.mono p.mono hsl
    | o =>
      obtain ⟨a, o, e, f, h, c⟩ := hsl
      obtain ⟨x, y, z⟩ := own f h c
      exact ⟨a, o, e, x, y, z⟩
    | io =>
      obtain ⟨a, o, e, f, h, c⟩ := hsl
      obtain ⟨x, y, z⟩ := own f h c
      exact ⟨a, o, e, x, y, z⟩
  inj := S.inj
theorem StpE.pst (S : SRep R F H σ env) (p : PSt F H F' H') : StpE R F H σ env F' H' env := ⟨S.pst p, p.fr _, fun i k d e _ => ⟨d, e⟩⟩
/-- a new own value is frozen -/
theorem StpE.freeze {d : D} {fr : Bool} {z : V} (s : StpE R F H σ env F' H' env') (S : SRep R F H σ env) (h : VOk R H F' H' d fr z) : ∃ F2, StpE R F H σ env F2 H' env' ∧ Rep R F2 d z ∧ Le F' F2 := by
  cases fr with
  | false => exact ⟨F', s, h, Le.refl _⟩
  | true =>
    obtain ⟨p, o, e, hf, hh, hc, h0⟩ := h
    subst e
    have np : ∀ a, Own σ env' a → a ≠ p := fun a ha z => by
      subst z
      obtain ⟨_, o', e'⟩ := own_live S (s.ownSub ha)
      rw [h0] at e'; cases e'
    refine ⟨upd F' p o, ⟨⟨fun a u e => ?_, s.rep.len, fun i k d' e => ?_, s.rep.inj⟩, ⟨s.fr.mono.trans (Le.upd hf), s.fr.keep, fun a u e => ?_, s.fr.own, s.fr.live⟩, s.sub⟩, (hc.mono (Le.upd hf)).rep upd_same, Le.upd hf⟩
    · by_cases q : a = p
      · subst q; rw [upd_same] at e; cases e; exact hh
      · rw [upd_ne q] at e; exact s.rep.le a u e
    · obtain ⟨v, hv, hsl⟩ := s.rep.get i k d' e
      refine ⟨v, hv, ?_⟩
      cases k with
      | f => exact Rep.mono (Le.upd hf) hsl
      | o =>
        obtain ⟨a, u, e1, e2, e3, e4⟩ := hsl
        subst e1
        exact ⟨a, u, rfl, by rw [upd_ne (np a ⟨i, _, d', e, by decide, hv⟩)]; exact e2, e3, e4.mono (Le.upd hf)⟩
      | io =>
        obtain ⟨a, u, e1, e2, e3, e4⟩ := hsl
        subst e1
        exact ⟨a, u, rfl, by rw [upd_ne (np a ⟨i, _, d', e, by decide, hv⟩)]; exact e2, e3, e4.mono (Le.upd hf)⟩
    · by_cases q : a = p
      · subst q; exact .inr (.inl h0)
      · rw [upd_ne q] at e; exact s.fr.new a u e
/-- a value of before, behind a step -/
theorem VOk.step {H0 : Hp} {d : D} {fr : Bool} {z : V} (S0 : ∀ a, Own σ env a → ∃ o, H0 a = some o) (h : VOk R H0 F H d fr z) (s : StpE R F H σ env F' H' env') : VOk R H0 F' H' d fr z := by
  cases fr with
  | false => exact Rep.mono s.fr.mono h
  | true =>
    obtain ⟨p, o, e, hf, hh, hc, h0⟩ := h
    have no : ¬ Own σ env p := fun z => by
      obtain ⟨o', e'⟩ := S0 p z
      rw [h0] at e'; cases e'
    refine ⟨p, o, e, ?_, s.fr.keep _ _ hh no, hc.mono s.fr.mono, h0⟩
    cases q : F' p with
    | none => rfl
    | some u =>
      rcases s.fr.new p u q with z | z | z
      · rw [hf] at z; cases z
      · rw [hh] at z; cases z
      · exact absurd z no
/-- a name used as a value: what it held by itself is frozen -/
theorem useV_ok {i : Nat} {r : DF} (S : SRep R F H σ env) (e : useV i env = .ok (r, env')) : ∃ z F2, σ[i]? = some (some z) ∧ r.2 = false ∧ StpE R F H σ env F2 H env' ∧ Rep R F2 r.1 z := by
  unfold useV at e
  split at e
  · rename_i d ha
    cases e
    obtain ⟨z, hz, hs⟩ := S.get i _ _ ha
    exact ⟨z, F, hz, rfl, .refl S, hs⟩
  · rename_i d ha
    cases e
    obtain ⟨z, hz, p, o, e1, hf, hh, hc⟩ := S.get i _ _ ha
    subst e1
    have hp : Own σ env p := ⟨i, _, d, ha, by decide, hz⟩
    have ne : ∀ j k d', at_ (put env i (some (.f, d))) j = some (k, d') → k ≠ .f → i ≠ j ∧ at_ env j = some (k, d') := fun j k d' q hk => by
      rcases at_put q with ⟨_, z⟩ | z
      · cases z; exact absurd rfl hk
      · exact z
    refine ⟨.ref p, upd F p o, hz, rfl, ⟨⟨fun a u e => ?_, by rw [put_length]; exact S.len, fun j k d' q => ?_, fun a b k l d1 d2 c q1 h1 q2 h2 => ?_⟩, ⟨Le.upd hf, fun a u e _ => e, fun a u e => ?_, fun a h => .inl ?_, fun a u e => ⟨u, e⟩⟩, fun j k d' q hk => ⟨d', (ne j k d' q hk).2⟩⟩, (hc.mono (Le.upd hf)).rep upd_same⟩
    · by_cases q : a = p
      · subst q; rw [upd_same] at e; cases e; exact hh
      · rw [upd_ne q] at e; exact S.le a u e
    · rcases at_put q with ⟨h1, h2⟩ | ⟨h1, h2⟩
      · subst h1
        cases h2
        exact ⟨_, hz, (hc.mono (Le.upd hf)).rep upd_same⟩
      · obtain ⟨v, hv, hsl⟩ := S.get j k d' h2
        refine ⟨v, hv, ?_⟩
        have np : ∀ a, k ≠ .f → v = .ref a → a ≠ p := fun a hk e z => by
          subst z e
          exact h1 (S.inj i j _ _ _ _ a ha (by decide) h2 hk hz hv)
        cases k with
        | f => exact Rep.mono (Le.upd hf) hsl
        | o =>
          obtain ⟨a, u, e1, e2, e3, e4⟩ := hsl
          exact ⟨a, u, e1, by rw [upd_ne (np a (by decide) e1)]; exact e2, e3, e4.mono (Le.upd hf)⟩
        | io =>
          obtain ⟨a, u, e1, e2, e3, e4⟩ := hsl
          exact ⟨a, u, e1, by rw [upd_ne (np a (by decide) e1)]; exact e2, e3, e4.mono (Le.upd hf)⟩
    · obtain ⟨_, q1⟩ := ne _ _ _ q1 h1
      obtain ⟨_, q2⟩ := ne _ _ _ q2 h2
      exact S.inj a b k l d1 d2 c q1 h1 q2 h2
    · by_cases q : a = p
      · subst q; exact .inr (.inr hp)
      · rw [upd_ne q] at e; exact .inl e
    · obtain ⟨j, k, d', q, hk, hv⟩ := h
      exact ⟨j, k, d', (ne j k d' q hk).2, hk, hv⟩
  · cases e
/-- a name's slot is filled -/
theorem SRep.put {i : Nat} {d : D} {fr : Bool} {z : V} {k : Ow} (S : SRep R F H σ env) (hk : k = if fr then .o else .f) (hv : (fr = false ∧ Rep R F d z) ∨ (fr = true ∧ ∃ p o, z = .ref p ∧ F p = none ∧ H p = some o ∧ CRep R F o d ∧ ∀ j l d', j ≠ i → at_ env j = some (l, d') → l ≠ .f → σ[j]? ≠ some (some (.ref p)))) :
    SRep R F H (σ.set i (some z)) (put env i (some (k, d))) where
  le := S.le
  len := by rw [put_length, List.length_set]; exact S.len
  get := fun j l d' q => by
    rcases at_put q with ⟨h1, h2⟩ | ⟨h1, h2⟩
    · subst h1
      cases h2
      have hi : i < σ.length := by
        have := at_lt q
        rw [put_length] at this
        exact Nat.lt_of_lt_of_le this S.len
      refine ⟨z, by rw [List.getElem?_set]; simp [hi], ?_⟩
      rcases hv with ⟨rfl, h⟩ | ⟨rfl, p, o, e1, e2, e3, e4, _⟩
      · rw [hk]; exact h
      · rw [hk]; exact ⟨p, o, e1, e2, e3, e4⟩
    · obtain ⟨v, hv', hsl⟩ := S.get j l d' h2
      exact ⟨v, by rw [List.getElem?_set]; simp [h1]; exact hv', hsl⟩
  inj := fun a b k1 k2 d1 d2 c q1 h1 q2 h2 e1 e2 => by
    have cs : ∀ {j l d'}, at_ (PK.put env i (some (k, d))) j = some (l, d') → l ≠ .f → (σ.set i (some z))[j]? = some (some (.ref c)) → (i = j ∧ fr = true ∧ z = .ref c) ∨ (i ≠ j ∧ at_ env j = some (l, d') ∧ σ[j]? = some (some (.ref c))) := fun {j l d'} q hl e => by
      rcases at_put q with ⟨h1, h2⟩ | ⟨h1, h2⟩
      · subst h1
        cases h2
        have hi : i < σ.length := by
          have := at_lt q
          rw [put_length] at this
          exact Nat.lt_of_lt_of_le this S.len
        rw [List.getElem?_set] at e
        simp [hi] at e
        refine .inl ⟨rfl, ?_, e⟩
        cases fr with
        | true => rfl
        | false => exact absurd hk hl
      · rw [List.getElem?_set] at e
        simp [h1] at e
        exact .inr ⟨h1, h2, e⟩
    rcases cs q1 h1 e1 with ⟨x1, x2, x3⟩ | ⟨x1, x2, x3⟩
    · rcases cs q2 h2 e2 with ⟨y1, y2, y3⟩ | ⟨y1, y2, y3⟩
      · exact x1.symm.trans y1
      · rcases hv with ⟨z1, _⟩ | ⟨_, p, o, e, _, _, _, hn⟩
        · rw [x2] at z1; cases z1
        · rw [x3] at e; cases e
          exact absurd y3 (hn b k2 d2 (Ne.symm y1) y2 h2)
    · rcases cs q2 h2 e2 with ⟨y1, y2, y3⟩ | ⟨y1, y2, y3⟩
      · rcases hv with ⟨z1, _⟩ | ⟨_, p, o, e, _, _, _, hn⟩
        · rw [y2] at z1; cases z1
        · rw [y3] at e; cases e
          exact absurd x3 (hn a k1 d1 (Ne.symm x1) x2 h1)
      · exact S.inj a b k1 k2 d1 d2 c x2 h1 y2 h2 x3 y3
/-- .. as a step from where the value was made -/
theorem Stp.put {i : Nat} {d : D} {fr : Bool} {z : V} (s : Stp R F H σ env F' H' σ' env') (hv : (fr = false ∧ Rep R F' d z) ∨ (fr = true ∧ ∃ p o, z = .ref p ∧ F' p = none ∧ H' p = some o ∧ CRep R F' o d ∧ H p = none ∧ ¬ Own σ' env' p)) :
    Stp R F H σ env F' H' (σ'.set i (some z)) (PK.put env' i (some (if fr then .o else .f, d))) := by
  have cs : ∀ {j l d' a}, at_ (PK.put env' i (some (if fr then .o else .f, d))) j = some (l, d') → l ≠ .f → (σ'.set i (some z))[j]? = some (some (.ref a)) → (l = .o ∧ H a = none) ∨ (i ≠ j ∧ at_ env' j = some (l, d') ∧ σ'[j]? = some (some (.ref a))) := fun {j l d' a} q hl e => by
    rcases at_put q with ⟨h1, h2⟩ | ⟨h1, h2⟩
    · subst h1
      have hi : i < σ'.length := by
        have := at_lt q
        rw [put_length] at this
        exact Nat.lt_of_lt_of_le this s.rep.len
      rw [List.getElem?_set] at e
      simp [hi] at e
      rcases hv with ⟨rfl, _⟩ | ⟨rfl, p, o, e1, _, _, _, h0, _⟩
      · cases h2; exact absurd rfl hl
      · cases h2
        rw [e] at e1; cases e1
        exact .inl ⟨rfl, h0⟩
    · rw [List.getElem?_set] at e
      simp [h1] at e
      exact .inr ⟨h1, h2, e⟩
  refine ⟨s.rep.put rfl ?_, ⟨s.fr.mono, s.fr.keep, s.fr.new, fun a h => ?_, s.fr.live⟩, fun a h => ?_, fun j d' q => ?_⟩
  · rcases hv with h | ⟨h, p, o, e1, e2, e3, e4, _, e6⟩
    · exact .inl h
    · exact .inr ⟨h, p, o, e1, e2, e3, e4, fun j l d' _ q hl e => e6 ⟨j, l, d', q, hl, e⟩⟩
  · obtain ⟨j, l, d', q, hl, e⟩ := h
    rcases cs q hl e with ⟨_, h⟩ | ⟨_, h1, h2⟩
    · exact .inr h
    · exact s.fr.own a ⟨j, l, d', h1, hl, h2⟩
  · obtain ⟨j, d', q, e⟩ := h
    rcases cs q (by decide) e with ⟨_, h⟩ | ⟨_, h1, h2⟩
    · exact .inr h
    · exact s.oo a ⟨j, d', h1, h2⟩
  · rcases at_put q with ⟨h1, h2⟩ | ⟨h1, h2⟩
    · cases fr <;> cases h2
    · obtain ⟨h3, h4⟩ := s.io j d' h2
      exact ⟨h3, by rw [List.getElem?_set]; simp [h1]; exact h4⟩
end
end PK
end
section
set_option Elab.async false
set_option linter.all false
set_option maxRecDepth 100000
set_option maxHeartbeats 4000000
/-! PkRd: the checker (a text against the IR), the readings of the IR. -/
namespace PK
open PySem PySem.Spec PyProof.Rows L2

/-! ### small facts about the text -/
def notStar : Expr → Bool
  | .Starred _ _ => false
  | _ => true
theorem star_cons {e : Expr} {es : List Expr} {env : PySem.Env} (h : notStar e = true) : starEach (e :: es) env = (false, eval e env) :: starEach es env := by
  cases e <;> first | rfl | cases h
theorem backTo_cons {pos : Pos} {x : Bool × Sem Value} {r : List (Bool × Sem Value)} : backTo pos (x :: r) = (x.1, if x.1 then do let v ← x.2; standAt pos; pure v else x.2) :: backTo pos r := rfl
theorem star_plain {pos : Pos} {env : PySem.Env} : ∀ {es : List Expr}, es.all notStar = true → (backTo pos (starEach es env)).any (·.1) = false
  | [], _ => rfl
  | e :: es, h => by
    rw [List.all_cons, Bool.and_eq_true] at h
    rw [star_cons h.1, backTo_cons, List.any_cons, star_plain h.2]
    rfl
theorem star_few {pos : Pos} {env : PySem.Env} : ∀ {es : List Expr}, es.all notStar = true → (backTo pos (starEach es env)).all (fun x => !x.1) = true
  | [], _ => rfl
  | e :: es, h => by
    rw [List.all_cons, Bool.and_eq_true] at h
    rw [star_cons h.1, backTo_cons, List.all_cons, star_few h.2]
    rfl
def notSlice : Expr → Bool
  | .Slice _ _ _ _ => false
  | _ => true
theorem plain_ix {b : Expr} (h : notSlice b = true) : PlainIx b := by
  intro o i
  cases b <;> first | rfl | cases h
def notComp : Expr → Bool
  | .ListComp _ _ _ _ => false
  | .SetComp _ _ _ _ => false
  | .DictComp _ _ _ _ _ => false
  | _ => true
theorem swaps_not {e : Expr} {t : Option Expr} {n : Nat} {env : PySem.Env} (h : notComp e = true) : swapsWith e t n env = pure false := by
  cases e <;> first | rfl | cases h
def notTup : Expr → Bool
  | .Tuple _ _ _ => false
  | _ => true
theorem swst_not {e : Expr} {ts : List Expr} {env : PySem.Env} (h : notTup e = true) : swappedStores ts e env = pure none := by
  cases ts with
  | nil => cases e <;> first | rfl | cases h
  | cons t r =>
    cases r with
    | nil => cases t <;> cases e <;> first | rfl | cases h
    | cons _ _ => cases t <;> cases e <;> first | rfl | cases h
def isTupE : Expr → Bool
  | .Tuple _ _ _ => true
  | _ => false
def notSet : Expr → Bool
  | .Set _ _ _ => false
  | _ => true
theorem folded_not {e : Expr} {env : PySem.Env} (h : notSet e = true) (x : Value) : foldedSetIterable e env x = pure x := by
  cases e <;> first | rfl | cases h
/-- how a test is read: plainly -/
def plainT : Expr → Bool
  | .UnaryOp .Not _ _ => false
  | .BoolOp _ _ _ => false
  | .IfExp _ _ _ _ => false
  | .Compare _ _ _ _ => false
  | _ => true
theorem plain_true {e : Expr} {env : PySem.Env} (h : plainT e = true) (whole : Sem Value) : isTrue e env whole = (do let v ← whole; standAt e.pos; holding [v] (truthy v)) := by
  cases e <;> first
    | rfl
    | (rename_i op _ _; cases op <;> first | rfl | cases h)
    | cases h
theorem _root_.L2.PT.ofBool {X : Cx} {op : BoolOp} {es : List Expr} {pos : Pos} {t : TT} (h : PT X (.BoolOp op es pos) t) : PW X (.BoolOp op es pos) t := ⟨fun _ pins s σ H Q I q => h.run pins s σ H Q I q⟩
theorem pt_ite {X : Cx} {c a b : Expr} {pos : Pos} {tc ta tb : TT} (hc : PT X c tc) (ha : PT X a ta) (hb : PT X b tb) : PT X (.IfExp c a b pos) (fun σ H Q => tc σ H fun k H1 => if k = true then ta σ H1 Q else tb σ H1 Q) := by
  refine ⟨fun pins s σ H Q I h => ?_⟩
  show wpAny _ _ (isTrue c X.env (eval c X.env) >>= fun k => if k = true then isTrue a X.env (eval a X.env) else isTrue b X.env (eval b X.env)) _ _ _
  refine wpAny_bind (thn (hc.run pins s σ H _ I h) fun k s1 ⟨H1, I1, q⟩ => ?_)
  cases k with
  | true => exact ha.run pins s1 σ H1 Q I1 q
  | false => exact hb.run pins s1 σ H1 Q I1 q
/-- a reading that asks more -/
theorem _root_.L2.PE.imp {X : Cx} {e : Expr} {t t' : TE} (h : PE X e t) (k : ∀ σ H Q, t' σ H Q → t σ H Q) : PE X e t' := ⟨fun pins s σ H Q I q => h.run pins s σ H Q I (k σ H Q q)⟩
theorem _root_.L2.PT.imp {X : Cx} {e : Expr} {t t' : TT} (h : PT X e t) (k : ∀ σ H Q, t' σ H Q → t σ H Q) : PT X e t' := ⟨fun pins s σ H Q I q => h.run pins s σ H Q I (k σ H Q q)⟩
theorem _root_.L2.PA.imp {X : Cx} {e : List Expr} {t t' : TA} (h : PA X e t) (k : ∀ σ H Q, t' σ H Q → t σ H Q) : PA X e t' := ⟨fun pos pins s σ H Q I q => h.run pos pins s σ H Q I (k σ H Q q)⟩
theorem _root_.L2.PI.imp {X : Cx} {tg e : Expr} {t t' : TI} (h : PI X tg e t) (k : ∀ σ H Q, t' σ H Q → t σ H Q) : PI X tg e t' := ⟨fun pins s σ H Q I q => h.run pins s σ H Q I (k σ H Q q)⟩
theorem _root_.L2.PS.imp {X : Cx} {e : Stmt} {t t' : TS} (h : PS X e t) (k : ∀ D σ H, t' D σ H → t D σ H) : PS X e t' := ⟨fun pins s σ H D I q => h.run pins s σ H D I (k D σ H q)⟩
theorem _root_.L2.PSs.imp {X : Cx} {e : List Stmt} {t t' : TS} (h : PSs X e t) (k : ∀ D σ H, t' D σ H → t D σ H) : PSs X e t' := ⟨fun pins s σ H D I q => h.run pins s σ H D I (k D σ H q)⟩
theorem _root_.L2.PG.imp {X : Cx} {e : Expr} {t t' : TG} (h : PG X e t) (k : ∀ v σ H Q, t' v σ H Q → t v σ H Q) : PG X e t' := ⟨fun pins s σ H v u Q I r q => h.run pins s σ H v u Q I r (k v σ H Q q)⟩
theorem _root_.L2.PGs.imp {X : Cx} {e : List Expr} {t t' : TGs} (h : PGs X e t) (k : ∀ v σ H Q, t' v σ H Q → t v σ H Q) : PGs X e t' := ⟨fun pins s σ H v u Q I r q => h.run pins s σ H v u Q I r (k v σ H Q q)⟩
theorem _root_.L2.PTs.imp {X : Cx} {e : List Expr} {t t' : TT} (h : PTs X e t) (k : ∀ σ H Q, t' σ H Q → t σ H Q) : PTs X e t' := ⟨fun pins s σ H Q I q => h.run pins s σ H Q I (k σ H Q q)⟩
def notCall0 : Expr → Bool
  | .Call _ [] _ _ => false
  | _ => true
theorem base_not {o : Expr} {f : Str} {env : PySem.Env} {w : Sem Value} (h : notCall0 o = true) : attributeBase o f env w = w := by
  cases o with
  | Call g as ks p =>
    cases as with
    | nil => cases h
    | cons a as => cases g <;> rfl
  | _ => rfl

/-! ### the checker -/
structure Ck where
  N : List Str
  fns : List (Nat × Str)
  free : List Str
  con : List (Str × D)
  io : Nat → Bool
mutual
def sameD : D → D → Bool
  | .non, .non => true
  | .bl a, .bl b => decide (a = b)
  | .int a, .int b => decide (a = b)
  | .str a, .str b => decide (a = b)
  | .tup a, .tup b => sameDs a b
  | _, _ => false
def sameDs : List D → List D → Bool
  | [], [] => true
  | a :: r, b :: q => sameD a b && sameDs r q
  | _, _ => false
end
mutual
theorem sameD_eq : ∀ {a b : D}, sameD a b = true → a = b
  | .non, b, h => by cases b <;> first | rfl | (simp [sameD] at h)
  | .bl x, b, h => by cases b <;> first | (simp [sameD] at h; rw [h]) | (simp [sameD] at h)
  | .int x, b, h => by cases b <;> first | (simp [sameD] at h; rw [h]) | (simp [sameD] at h)
  | .str x, b, h => by cases b <;> first | (simp [sameD] at h; rw [h]) | (simp [sameD] at h)
  | .tup x, b, h => by
    cases b with
    | tup y => rw [sameDs_eq (show sameDs x y = true by simpa [sameD] using h)]
    | _ => simp [sameD] at h
  | .lst x, b, h => by cases b <;> simp [sameD] at h
  | .dct x y, b, h => by cases b <;> simp [sameD] at h
  | .obj x y, b, h => by cases b <;> simp [sameD] at h
  | .scr x, b, h => by cases b <;> simp [sameD] at h
theorem sameDs_eq : ∀ {a b : List D}, sameDs a b = true → a = b
  | [], [], _ => rfl
  | [], _ :: _, h => by simp [sameDs] at h
  | _ :: _, [], h => by simp [sameDs] at h
  | x :: r, y :: q, h => by
    have h' : sameD x y = true ∧ sameDs r q = true := by simpa [sameDs] using h
    rw [sameD_eq h'.1, sameDs_eq h'.2]
end
def okN (x : Str) : Bool := !(x == ("__debug__" : Str)) && !(x == ("__classdict__" : Str))
def visB (sc : Scope) (x : Str) : Bool := match sc.names.lookup x with
  | some .local => true
  | some .cell => true
  | some .free => true
  | _ => false
def glbB (sc : Scope) (x : Str) : Bool := match sc.names.lookup x with
  | some .globalImplicit => !(x == ("__debug__" : Str)) && !(x == ("__name__" : Str))
  | _ => false
def locB (sc : Scope) (own : Str → Bool) (x : Str) : Bool := match sc.names.lookup x with
  | some .local => true
  | some .cell => own x
  | _ => false
def bopB : Bop → Operator → Bool
  | .add, .Add => true
  | .sub, .Sub => true
  | .mul, .Mult => true
  | .div, .FloorDiv => true
  | .mod, .Mod => true
  | .pow, .Pow => true
  | _, _ => false
def copB : Cop → CmpOp → Bool
  | .eq, .Eq => true
  | .ne, .NotEq => true
  | .lt, .Lt => true
  | .le, .LtE => true
  | .gt, .Gt => true
  | .ge, .GtE => true
  | .is, .Is => true
  | .isnt, .IsNot => true
  | .in_, .In => true
  | .notin, .NotIn => true
  | _, _ => false
/-- a built-in function's name -/
def biN : Bi → Option String
  | .len => some "len"
  | .abs => some "abs"
  | .tuple => some "tuple"
  | .list => some "list"
  | .all => some "all"
  | .min2 => some "min"
  | .max2 => some "max"
  | .maxL => some "max"
  | .intOf => some "int"
  | .dictOf => some "dict"
  | _ => none
def mtNm : Mt → Option String
  | .index => some "index"
  | .join => some "join"
  | _ => none
def ckC (T : Ck) (sc : Scope) (d : D) : Expr → Bool
  | .Constant (.int i) _ _ => sameD d (.int i)
  | .Constant (.bool b) _ _ => sameD d (.bl b)
  | .Constant .none _ _ => sameD d .non
  | .Constant (.str s) _ _ => sameD d (.str s.cps.toList)
  | .Name x _ => glbB sc x && (match T.con.lookup x with
    | some d' => sameD d d'
    | none => false)
  | _ => false
def ckV (T : Ck) (sc : Scope) (i : Nat) : Expr → Bool
  | .Name x _ => decide (T.N[i]? = some x) && visB sc x && okN x
  | _ => false
mutual
/-- a target -/
def ckG (T : Ck) (sc : Scope) (own : Str → Bool) : Tg → Expr → Bool
  | .nm i, e => match e with
    | .Name x _ => decide (T.N[i]? = some x) && locB sc own x
    | _ => false
  | .tp ts, e => match e with
    | .Tuple es _ _ => es.all notStar && decide (es.length = ts.length) && ckGs T sc own ts es
    | _ => false
def ckGs (T : Ck) (sc : Scope) (own : Str → Bool) : List Tg → List Expr → Bool
  | [], es => es.isEmpty
  | t :: ts, es => match es with
    | e :: r => ckG T sc own t e && ckGs T sc own ts r
    | [] => false
end
def ownOf (N : List Str) (vs : List Nat) : List (Str × Nat) := vs.map fun i => ((N[i]?).getD ⟨#[]⟩, i)
def ownB (scope : Scope) (x : Str) : Bool := scope.names.lookup x == some .cell
def headE : List Expr → Option Expr
  | [] => none
  | e :: _ => some e
mutual
def ckX (T : Ck) : X → Scope → (Str → Bool) → Expr → Bool
  | .v i, sc, _, e => ckV T sc i e
  | .c d, sc, _, e => ckC T sc d e
  | .bin o a b, sc, own, e => match e with
    | .BinOp l op r _ => bopB o op && ckX T a sc own l && ckX T b sc own r
    | _ => false
  | .neg a, sc, own, e => match e with
    | .UnaryOp .USub l _ => ckX T a sc own l
    | _ => false
  | .not a, sc, own, e => match e with
    | .UnaryOp .Not l _ => ckX T a sc own l
    | _ => false
  | .and a b, sc, own, e => match e with
    | .BoolOp .And (l :: r :: rest) pos => ckX T a sc own l && (match rest with
      | [] => ckX T b sc own r
      | _ :: _ => (match b with
        | .and _ _ => true
        | _ => false) && ckX T b sc own (.BoolOp .And (r :: rest) pos))
    | _ => false
  | .or a b, sc, own, e => match e with
    | .BoolOp .Or (l :: r :: rest) pos => ckX T a sc own l && (match rest with
      | [] => ckX T b sc own r
      | _ :: _ => (match b with
        | .or _ _ => true
        | _ => false) && ckX T b sc own (.BoolOp .Or (r :: rest) pos))
    | _ => false
  | .cmp o a b, sc, own, e => match e with
    | .Compare l [op] [r] _ => copB o op && notSet r && ckX T a sc own l && ckX T b sc own r
    | _ => false
  | .chain o p a b c, sc, own, e => match e with
    | .Compare l [op, op'] [r, q] _ => copB o op && copB p op' && notSet q && ckX T a sc own l && ckX T b sc own r && ckX T c sc own q
    | _ => false
  | .ite c a b, sc, own, e => match e with
    | .IfExp t l r _ => ckX T c sc own t && ckX T a sc own l && ckX T b sc own r
    | _ => false
  | .tup es, sc, own, e => match e with
    | .Tuple as _ _ => as.all notStar && ckXs T es sc own as
    | _ => false
  | .lst es, sc, own, e => match e with
    | .List as _ => as.all notStar && ckXs T es sc own as
    | _ => false
  | .ix a b, sc, own, e => match e with
    | .Subscript l r _ => notSlice r && ckX T a sc own l && ckX T b sc own r
    | _ => false
  | .sl a lo hi, sc, own, e => match e with
    | .Subscript l (.Slice x y none _) _ => ckX T a sc own l && (match x with
        | some x => ckX T lo sc own x
        | none => (match lo with
          | .no => true
          | _ => false)) && (match y with
        | some y => ckX T hi sc own y
        | none => (match hi with
          | .no => true
          | _ => false))
    | _ => false
  | .call f es, sc, own, e => match e with
    | .Call (.Name x _) as [] _ => decide ((f, x) ∈ T.fns) && glbB sc x && as.all notStar && !as.isEmpty && (match T.io f with
      | false => ckXs T es sc own as
      | true => (match es with
        | .v i :: es => (match as with
          | a :: as => ckV T sc i a && ckXs T es sc own as
          | [] => false)
        | _ => false))
    | _ => false
  | .bi f es, sc, own, e => match e with
    | .Call (.Name x _) as [] _ => decide (x ∈ T.free) && glbB sc x && as.all notStar && (match f with
      | .isi t => decide (x = ("isinstance" : Str)) && (match as with
        | [a, .Name y _] => decide (y = Str.ofString (tyN t)) && decide (y ∈ T.free) && glbB sc y && (match es with
          | [z] => notStar a && ckX T z sc own a
          | _ => false)
        | _ => false)
      | .range1 => decide (x = ("list" : Str)) && (match as with
        | [.Call (.Name y _) [a] [] _] => decide (y = ("range" : Str)) && decide (y ∈ T.free) && glbB sc y && (match es with
          | [z] => notStar a && ckX T z sc own a
          | _ => false)
        | _ => false)
      | f => (match biN f with
        | some n => decide (x = Str.ofString n) && !as.isEmpty && ckXs T es sc own as
        | none => false))
    | _ => false
  | .mt m o es, sc, own, e => match e with
    | .Call (.Attribute l n apos) as [] cpos => (match mtNm m with
        | some n' => decide (n = Str.ofString n')
        | none => false) && notCall0 l && as.all notStar && decide (as.length = 1) && (apos.endLine == cpos.line) && ckX T o sc own l && ckXs T es sc own as
    | _ => false
  | .comp t it ifs elt, sc, own, e => match e with
    | .ListComp el [⟨tg, ie, ifE, 0⟩] scope _ => blkC T.N sc scope (ownOf T.N t.slots) && ckG T (relS scope sc) (ownB scope) t tg && notSet ie && decide (ifE.length ≤ 1) && ckXs T ifs (relS scope sc) (ownB scope) ifE && ckX T elt (relS scope sc) (ownB scope) el &&
      (match it with
        | .rng es => (match ie with
          | .Call (.Name x _) as [] _ => decide (x = ("range" : Str)) && decide (x ∈ T.free) && glbB sc x && as.all notStar && ckXs T es sc own as
          | _ => false)
        | .zip a b => isTupE tg && (match ie with
          | .Call (.Name x _) [l, r] [] _ => decide (x = ("zip" : Str)) && decide (x ∈ T.free) && glbB sc x && notStar l && notStar r && ckX T a sc own l && ckX T b sc own r
          | _ => false)
        | .enum a => isTupE tg && (match ie with
          | .Call (.Name x _) [l] [] _ => decide (x = ("enumerate" : Str)) && decide (x ∈ T.free) && glbB sc x && notStar l && ckX T a sc own l
          | _ => false)
        | x => ckX T x sc own ie)
    | _ => false
  | .dictOf _, _, _, _ => true
  | _, _, _, _ => false
def ckXs (T : Ck) : List X → Scope → (Str → Bool) → List Expr → Bool
  | [], _, _, es => es.isEmpty
  | x :: xs, sc, own, es => match es with
    | e :: r => ckX T x sc own e && ckXs T xs sc own r
    | [] => false
end
/-- what a loop walks -/
def ckI (T : Ck) (it : X) (sc : Scope) (own : Str → Bool) (tg ie : Expr) : Bool := match it with
  | .rng es => (match ie with
    | .Call (.Name x _) as [] _ => decide (x = ("range" : Str)) && decide (x ∈ T.free) && glbB sc x && as.all notStar && ckXs T es sc own as
    | _ => false)
  | .zip a b => isTupE tg && (match ie with
    | .Call (.Name x _) [l, r] [] _ => decide (x = ("zip" : Str)) && decide (x ∈ T.free) && glbB sc x && notStar l && notStar r && ckX T a sc own l && ckX T b sc own r
    | _ => false)
  | .enum a => isTupE tg && (match ie with
    | .Call (.Name x _) [l] [] _ => decide (x = ("enumerate" : Str)) && decide (x ∈ T.free) && glbB sc x && notStar l && ckX T a sc own l
    | _ => false)
  | x => ckX T x sc own ie
end PK
end
section
set_option Elab.async false
set_option linter.all false
set_option maxRecDepth 100000
set_option maxHeartbeats 4000000
/-! PkSnd: expressions: what the evaluator says, the text does. -/
namespace PK
open PySem PySem.Spec PyProof.Rows L2

theorem Res.bind_ok {α β : Type} {x : Res α} {f : α → Res β} {r : β} (h : x.bind f = .ok r) : ∃ a, x = .ok a ∧ f a = .ok r := by
  cases x with
  | ok a => exact ⟨a, rfl, h⟩
  | ex c p => cases h
  | bad => cases h
theorem Res.of_ok {α : Type} {x : Option α} {a : α} (h : Res.of x = .ok a) : x = some a := by
  cases x with
  | some b => cases h; rfl
  | none => cases h
theorem tst_ok {d : D} {b : Bool} (h : tst d = .ok b) : d = .bl b := by
  cases d <;> first | (cases h; rfl) | cases h

def OpV (R : RCx) (F : Hp) (σ : L2.St) : Op → V → Prop
  | .inl d, z => Rep R F d z
  | .inr i, z => σ[i]? = some (some z)
theorem OpV.mono {R : RCx} {F F' : Hp} {σ : L2.St} {o : Op} {z : V} (l : Le F F') (h : OpV R F σ o z) : OpV R F' σ o z := by
  cases o with
  | inl d => exact Rep.mono l h
  | inr i => exact h
theorem OpV.read {R : RCx} {F H : Hp} {σ : L2.St} {env : Env} {o : Op} {z : V} {d : D} (S : SRep R F H σ env) (h : OpV R F σ o z) (e : readO o env = .ok d) : RdR R F H d z := by
  cases o with
  | inl d' => cases e; exact .inl h
  | inr i =>
    simp only [readO] at e
    split at e
    · rename_i k d' ha
      cases e
      obtain ⟨v, hv, hs⟩ := S.get i _ _ ha
      rw [show σ[i]? = some (some z) from h] at hv
      cases hv
      cases k with
      | f => exact .inl hs
      | o => exact .inr hs
      | io => exact .inr hs
    · cases e
def OpVs (R : RCx) (F : Hp) (σ : L2.St) : List Op → List V → Prop
  | [], vs => vs = []
  | o :: os, vs => ∃ v vs', vs = v :: vs' ∧ OpV R F σ o v ∧ OpVs R F σ os vs'
theorem OpVs.mono {R : RCx} {F F' : Hp} {σ : L2.St} (l : Le F F') : ∀ {os : List Op} {vs : List V}, OpVs R F σ os vs → OpVs R F' σ os vs
  | [], _, h => h
  | o :: os, _, ⟨v, vs', e, a, b⟩ => ⟨v, vs', e, a.mono l, OpVs.mono l b⟩
theorem OpVs.read {R : RCx} {F H : Hp} {σ : L2.St} {env : Env} (S : SRep R F H σ env) : ∀ {os : List Op} {vs : List V} {ds : List D}, OpVs R F σ os vs → readOs os env = .ok ds → RdL R F H ds vs
  | [], _, _, h, e => by
    cases e
    exact h
  | o :: os, _, _, ⟨v, vs', e1, a, b⟩, e => by
    simp only [readOs] at e
    obtain ⟨d, h1, e⟩ := Res.bind_ok e
    obtain ⟨ds, h2, e⟩ := Res.bind_ok e
    cases e
    exact ⟨v, vs', e1, a.read S h1, OpVs.read S b h2⟩
theorem VOk.back {R : RCx} {H0 H1 F H : Hp} {d : D} {fr : Bool} {z : V} (l : ∀ a o, H0 a = some o → ∃ o', H1 a = some o') (h : VOk R H1 F H d fr z) : VOk R H0 F H d fr z := by
  cases fr with
  | false => exact h
  | true =>
    obtain ⟨p, o, e, hf, hh, hc, h0⟩ := h
    exact ⟨p, o, e, hf, hh, hc, none_of_live (l p) h0⟩

/-! ### the readings -/
section
variable (R : RCx) (G : PK.Gl)
def rE (x : X) : TE := fun σ H Q => ∃ F env r env', SRep R F H σ env ∧ evX G x env = .ok (r, env') ∧ ∀ z F' H', StpE R F H σ env F' H' env' → VOk R H F' H' r.1 r.2 z → Q z H'
def rF (x : X) : TE := fun σ H Q => ∃ F env r env', SRep R F H σ env ∧ evX G x env = .ok (r, env') ∧ ∀ z F' H', StpE R F H σ env F' H' env' → Rep R F' r.1 z → Q z H'
def rO (x : X) : TE := fun σ H Q => ∃ F env o env', SRep R F H σ env ∧ opd x (fun e => evX G x e) env = .ok (o, env') ∧ ∀ z F' H', StpE R F H σ env F' H' env' → OpV R F' σ o z → Q z H'
def rT (x : X) : TT := fun σ H Q => ∃ F env r env' b, SRep R F H σ env ∧ evX G x env = .ok (r, env') ∧ tst r.1 = .ok b ∧ ∀ F' H', StpE R F H σ env F' H' env' → Q b H'
def rXs (es : List X) : TA := fun σ H Q => ∃ F env ds env', SRep R F H σ env ∧ evXs G es env = .ok (ds, env') ∧ ∀ vs F' H', StpE R F H σ env F' H' env' → RepL R F' ds vs → Q vs H'
def rOs (es : List X) : TA := fun σ H Q => ∃ F env os env', SRep R F H σ env ∧ evOs G es env = .ok (os, env') ∧ ∀ vs F' H', StpE R F H σ env F' H' env' → OpVs R F' σ os vs → Q vs H'
def rTs (es : List X) : TT := fun σ H Q => ∃ F env b env', SRep R F H σ env ∧ evTs G es env = .ok (b, env') ∧ ∀ F' H', StpE R F H σ env F' H' env' → Q b H'
end
def Nob : Addr → Prop := fun _ => False
/-- a def's promise: what the evaluator says of it -/
def spOf (R : RCx) (io : Bool) (sem : List D → Res (D × Bool × D)) : Sp := fun vs H Q _ => ∃ F ds r, Le F H ∧ sem ds = .ok r ∧ match io with
  | false => RepL R F ds vs ∧ ∀ z F' H', Le F' H' → Fr Nob Nob F H F' H' → VOk R H F' H' r.1 r.2.1 z → Q z H'
  | true => ∃ d0 ds' a0 o vs', ds = d0 :: ds' ∧ vs = V.ref a0 :: vs' ∧ F a0 = none ∧ H a0 = some o ∧ CRep R F o d0 ∧ RepL R F ds' vs' ∧
      ∀ z F' H' o', Le F' H' → Fr (fun a => a = a0) (fun a => a = a0) F H F' H' → F' a0 = none → H' a0 = some o' → CRep R F' o' r.2.2 → VOk R H F' H' r.1 r.2.1 z → Q z H'
/-- the context of a def's body, or of a comprehension's block in it -/
structure At (R : RCx) (T : Ck) (G : PK.Gl) (n : Nat) (C : Cx) (sc : Scope) (own : Str → Bool) : Prop where
  P : C.prog = R.P
  w : C.w = R.w
  K : C.K = R.K
  N : C.N = T.N
  sc : C.env.scope = sc
  xe : C.xe = fun _ _ => False
  nd : C.N.Nodup
  calm : C.calm = true
  own : ∀ x, own x = true → C.fn x = true
  room : Room n C.A
  seer : Seer C
  free : ∀ x, x ∈ T.free → C.mg x = none
  con : ∀ x d, T.con.lookup x = some d → ∃ u v, C.mg x = some u ∧ RelV v u ∧ ∀ F, Rep R F d v
  glo : ∀ f x, (f, x) ∈ T.fns → ∃ a fd ps, C.mg x = some (.ref a) ∧ PySem.W.keepIn C.K (.ref a) = true ∧ Binds C.K fd ps [] ∧ FnOk C.prog C.w C.K C.mg C.base CX0 n a fd ps (spOf R (G.io f) (G.F f))
theorem At.blk {R : RCx} {T : Ck} {G : PK.Gl} {n : Nat} {C : Cx} {sc scope : Scope} {own : Str → Bool} (A : At R T G n C sc own) (s : Shared) (H : Hp) (a : Addr) (cl : List (Str × Addr)) (fp : List Addr) :
    At R T G n (C.blk s H scope (compEnvC scope cl a C.env) fp) (relS scope sc) (ownB scope) where
  P := A.P
  w := A.w
  K := A.K
  N := A.N
  sc := by rw [← A.sc]; rfl
  xe := rfl
  nd := A.nd
  calm := A.calm
  own := fun x h => h
  room := A.room
  seer := ⟨A.seer.seer, A.seer.tree, A.seer.stk, A.seer.dp⟩
  free := A.free
  con := A.con
  glo := A.glo

section
variable {R : RCx} {T : Ck} {G : PK.Gl} {n : Nat} {C : Cx} {sc : Scope} {own : Str → Bool}
theorem At.vis (A : At R T G n C sc own) {x : Str} (h : visB sc x = true) : Vis C.env.scope x := by
  rw [A.sc]
  unfold visB at h
  unfold Vis
  split at h <;> first | (rename_i e; rw [e]; simp; done) | cases h
theorem At.gl (A : At R T G n C sc own) {x : Str} (h : glbB sc x = true) : L2.Gl C x ∧ (x == ("__debug__" : Str)) = false ∧ x ≠ "__name__" := by
  unfold glbB at h
  split at h
  · rename_i e
    simp only [Bool.and_eq_true, Bool.not_eq_true'] at h
    refine ⟨?_, h.1, fun z => ?_⟩
    · unfold L2.Gl PySem.Env.kindOf
      rw [A.sc]; exact e
    · rw [z] at h
      exact absurd h.2 (by decide)
  · cases h
theorem At.loc (A : At R T G n C sc own) {x : Str} (h : locB sc own x = true) : Loc C.env.scope x ∧ (C.fn x = true ∨ C.env.scope.names.lookup x = some .local) := by
  unfold locB at h
  rw [A.sc]
  split at h
  · rename_i e; exact ⟨.inl e, .inr e⟩
  · rename_i e; exact ⟨.inr e, .inl (A.own x h)⟩
  · cases h
theorem okN_ok {x : Str} (h : okN x = true) : (x == ("__debug__" : Str)) = false ∧ (x == ("__classdict__" : Str)) = false := by
  unfold okN at h
  simp only [Bool.and_eq_true, Bool.not_eq_true'] at h
  exact h
/-- a name that is read -/
theorem p_var (A : At R T G n C sc own) {i : Nat} {e : Expr} (h : ckV T sc i e = true) : PE C e (tVar i) := by
  unfold ckV at h
  split at h
  · simp only [Bool.and_eq_true, decide_eq_true_eq] at h
    obtain ⟨⟨h1, h2⟩, h3⟩ := h
    exact pe_var (by rw [A.N]; exact h1) (A.vis h2) (okN_ok h3).1 (okN_ok h3).2
  · cases h
theorem p_c (A : At R T G n C sc own) {d : D} {e : Expr} (h : ckC T sc d e = true) : PE C e (rE R G (.c d)) := by
  have fin : ∀ {σ : L2.St} {H : Hp} {Q : VK} {z : V}, (∀ F, Rep R F d z) → rE R G (.c d) σ H Q → Q z H := fun hz ⟨F, env, r, env', S, e, q⟩ => by
    simp only [evX] at e
    cases e
    exact q _ F _ (.refl S) (hz F)
  unfold ckC at h
  split at h
  · cases sameD_eq h; exact pe_int.imp fun σ H Q q => fin (fun F => rfl) q
  · cases sameD_eq h; exact pe_bl.imp fun σ H Q q => fin (fun F => rfl) q
  · cases sameD_eq h; exact pe_non.imp fun σ H Q q => fin (fun F => rfl) q
  · cases sameD_eq h
    rename_i s _ _
    exact pe_str.imp fun σ H Q q => fin (fun F => by show _ = strV _; unfold strV; simp) q
  · rename_i x pos
    obtain ⟨h1, h2⟩ := Bool.and_eq_true_iff.mp h
    split at h2
    · rename_i d' hl
      obtain ⟨u, v, hm, rv, hr⟩ := A.con x d' hl
      have ed := sameD_eq h2
      subst ed
      obtain ⟨g1, g2, _⟩ := A.gl h1
      exact (pe_glob g1 hm rv g2).imp fun σ H Q q => fin hr q
    · cases h2
  · cases h
/-- from a value to a frozen value, an operand -/
theorem _root_.L2.PE.toF {x : X} {e : Expr} (h : PE C e (rE R G x)) : PE C e (rF R G x) := h.imp fun σ H Q ⟨F, env, r, env', S, e, q⟩ => ⟨F, env, r, env', S, e, fun z F' H' st vo => by
  obtain ⟨F2, st2, rp, _⟩ := st.freeze S vo
  exact q z F2 H' st2 rp⟩
theorem isName_v {x : X} {i : Nat} (h : isName x = some i) : x = .v i := by
  cases x <;> first | (cases h; rfl) | cases h
theorem p_opd (A : At R T G n C sc own) {x : X} {e : Expr} (hc : ckX T x sc own e = true) (h : PE C e (rE R G x)) : PE C e (rO R G x) := by
  cases hn : isName x with
  | some i =>
    cases isName_v hn
    rw [ckX] at hc
    refine (p_var A hc).imp fun σ H Q ⟨F, env, o, env', S, e, q⟩ => ?_
    simp only [opd, isName] at e
    split at e
    · rename_i y ha
      cases e
      obtain ⟨k, d⟩ := y
      obtain ⟨v, hv, _⟩ := S.get i k d ha
      exact ⟨v, hv, q v F H (.refl S) hv⟩
    · cases e
  | none =>
    refine h.toF.imp fun σ H Q ⟨F, env, o, env', S, e, q⟩ => ?_
    unfold opd at e
    rw [hn] at e
    obtain ⟨r, h1, e⟩ := Res.bind_ok e
    cases e
    exact ⟨F, env, r.1, r.2, S, h1, fun z F' H' st rp => q z F' H' st rp⟩
theorem p_v (A : At R T G n C sc own) {i : Nat} {e : Expr} (h : ckV T sc i e = true) : PE C e (rE R G (.v i)) := (p_var A h).imp fun σ H Q ⟨F, env, r, env', S, e, q⟩ => by
  simp only [evX] at e
  obtain ⟨z, F2, hz, hr, st, rp⟩ := useV_ok S e
  exact ⟨z, hz, q z F2 H st (by rw [hr]; exact rp)⟩
/-- two operands -/
theorem two_ok {a b : X} {σ : L2.St} {H F : Hp} {env e1 e2 : Env} {x y : Op} {dx dy : D} {Q : V → V → Hp → Prop} (S : SRep R F H σ env) (h1 : opd a (fun e => evX G a e) env = .ok (x, e1)) (h2 : opd b (fun e => evX G b e) e1 = .ok (y, e2)) (r1 : readO x e2 = .ok dx) (r2 : readO y e2 = .ok dy)
    (q : ∀ z1 z2 F2 H2, StpE R F H σ env F2 H2 e2 → RdR R F2 H2 dx z1 → RdR R F2 H2 dy z2 → Q z1 z2 H2) : rO R G a σ H fun z1 H1 => rO R G b σ H1 fun z2 H2 => Q z1 z2 H2 :=
  ⟨F, env, x, e1, S, h1, fun z1 F1 H1 st1 o1 => ⟨F1, e1, y, e2, st1.rep, h2, fun z2 F2 H2 st2 o2 => q z1 z2 F2 H2 (st1.trans st2) ((o1.mono st2.fr.mono).read st2.rep r1) (o2.read st2.rep r2)⟩⟩
theorem bop_ok {o : Bop} {op : Operator} (h : bopB o op = true) : op = bopE o := by
  cases o <;> cases op <;> first | rfl | cases h
theorem cop_ok {o : Cop} {op : CmpOp} (h : copB o op = true) : op = copE o := by
  cases o <;> cases op <;> first | rfl | cases h
theorem marks_not {op : CmpOp} {e : Expr} (h : notSet e = true) : behindInMarks op e = false := by
  cases e <;> first | rfl | cases h
theorem p_bin (A : At R T G n C sc own) {o : Bop} {a b : X} {l r : Expr} {pos : Pos} (ha : PE C l (rO R G a)) (hb : PE C r (rO R G b)) : PE C (.BinOp l (bopE o) r pos) (rE R G (.bin o a b)) := by
  refine (pe_op (opr_bin (R := R) A.seer A.K) ha hb).imp fun σ H Q ⟨F, env, rr, env', S, e, q⟩ => ?_
  simp only [evX] at e
  obtain ⟨⟨x, e1⟩, h1, e⟩ := Res.bind_ok e
  obtain ⟨⟨y, e2⟩, h2, e⟩ := Res.bind_ok e
  obtain ⟨dx, r1, e⟩ := Res.bind_ok e
  obtain ⟨dy, r2, e⟩ := Res.bind_ok e
  obtain ⟨rv, h3, e⟩ := Res.bind_ok e
  cases e
  exact two_ok S h1 h2 r1 r2 fun z1 z2 F2 H2 st p1 p2 => ⟨F2, dx, dy, rr, st.rep.le, p1, p2, Res.of_ok h3, fun z F' H' ps vo => q z F' H' (st.trans (.pst st.rep ps)) (vo.back st.fr.live)⟩
theorem p_neg {a : X} {l : Expr} {pos : Pos} (ha : PE C l (rE R G a)) : PE C (.UnaryOp .USub l pos) (rE R G (.neg a)) := by
  refine (pe_un un_neg ha).imp fun σ H Q ⟨F, env, rr, env', S, e, q⟩ => ?_
  simp only [evX] at e
  obtain ⟨⟨x, e1⟩, h1, e⟩ := Res.bind_ok e
  split at e
  · rename_i i hi
    cases e
    refine ⟨F, env, x, e1, S, h1, fun z F' H' st vo => ?_⟩
    obtain ⟨dx, fx⟩ := x
    simp only at hi
    subst hi
    have ez : z = .int i := by
      cases fx with
      | false => exact vo
      | true => obtain ⟨_, _, _, _, _, c, _⟩ := vo; exact c.elim
    exact ⟨i, ez, q _ F' H' st rfl⟩
  · cases e
/-- a value that is a bool -/
theorem VOk.bl {H0 F H : Hp} {b fr : Bool} {z : V} (h : VOk R H0 F H (.bl b) fr z) : z = .bl b := by
  cases fr with
  | false => exact h
  | true => obtain ⟨_, _, _, _, _, c, _⟩ := h; exact c.elim
theorem p_not {a : X} {l : Expr} {pos : Pos} (ha : PE C l (rE R G a)) : PE C (.UnaryOp .Not l pos) (rE R G (.not a)) := by
  refine (pe_not ha).imp fun σ H Q ⟨F, env, rr, env', S, e, q⟩ => ?_
  simp only [evX] at e
  obtain ⟨⟨x, e1⟩, h1, e⟩ := Res.bind_ok e
  obtain ⟨b, h2, e⟩ := Res.bind_ok e
  cases e
  refine ⟨F, env, x, e1, S, h1, fun z F' H' st vo => ?_⟩
  rw [tst_ok h2] at vo
  exact ⟨b, vo.bl, q _ F' H' st rfl⟩
theorem p_and {a b : X} {l r : Expr} {rest : List Expr} {pos : Pos} (ha : PE C l (rE R G a)) (hb : PE C (.BoolOp .And (r :: rest) pos) (rE R G b)) : PE C (.BoolOp .And (l :: r :: rest) pos) (rE R G (.and a b)) := by
  refine (pe_and ha hb).imp fun σ H Q ⟨F, env, rr, env', S, e, q⟩ => ?_
  simp only [evX] at e
  obtain ⟨⟨x, e1⟩, h1, e⟩ := Res.bind_ok e
  obtain ⟨t, h2, e⟩ := Res.bind_ok e
  refine ⟨F, env, x, e1, S, h1, fun z F' H' st vo => ?_⟩
  rw [tst_ok h2] at vo
  refine ⟨t, vo.bl, ?_⟩
  cases t with
  | true => exact ⟨F', e1, rr, env', st.rep, e, fun z F2 H2 st2 vo2 => q z F2 H2 (st.trans st2) (vo2.back st.fr.live)⟩
  | false =>
    cases e
    exact q _ F' H' st rfl
theorem p_or {a b : X} {l r : Expr} {rest : List Expr} {pos : Pos} (ha : PE C l (rE R G a)) (hb : PE C (.BoolOp .Or (r :: rest) pos) (rE R G b)) : PE C (.BoolOp .Or (l :: r :: rest) pos) (rE R G (.or a b)) := by
  refine (pe_or ha hb).imp fun σ H Q ⟨F, env, rr, env', S, e, q⟩ => ?_
  simp only [evX] at e
  obtain ⟨⟨x, e1⟩, h1, e⟩ := Res.bind_ok e
  obtain ⟨t, h2, e⟩ := Res.bind_ok e
  refine ⟨F, env, x, e1, S, h1, fun z F' H' st vo => ?_⟩
  rw [tst_ok h2] at vo
  refine ⟨t, vo.bl, ?_⟩
  cases t with
  | false => exact ⟨F', e1, rr, env', st.rep, e, fun z F2 H2 st2 vo2 => q z F2 H2 (st.trans st2) (vo2.back st.fr.live)⟩
  | true =>
    cases e
    exact q _ F' H' st rfl
theorem p_cmp (A : At R T G n C sc own) {o : Cop} {a b : X} {l r : Expr} {pos : Pos} (hm : notSet r = true) (ha : PE C l (rO R G a)) (hb : PE C r (rO R G b)) : PE C (.Compare l [copE o] [r] pos) (rE R G (.cmp o a b)) := by
  refine (pe_cmpR (opr_cmp (R := R) (by have := A.room.un; omega) A.K) ha hb (marks_not hm)).imp fun σ H Q ⟨F, env, rr, env', S, e, q⟩ => ?_
  simp only [evX] at e
  obtain ⟨⟨x, e1⟩, h1, e⟩ := Res.bind_ok e
  obtain ⟨⟨y, e2⟩, h2, e⟩ := Res.bind_ok e
  obtain ⟨dx, r1, e⟩ := Res.bind_ok e
  obtain ⟨dy, r2, e⟩ := Res.bind_ok e
  obtain ⟨rv, h3, e⟩ := Res.bind_ok e
  cases e
  exact two_ok S h1 h2 r1 r2 fun z1 z2 F2 H2 st p1 p2 => ⟨F2, dx, dy, rv, st.rep.le, p1, p2, Res.of_ok h3, q _ F2 H2 st rfl⟩
theorem pt_cmp' (A : At R T G n C sc own) {o : Cop} {a b : X} {l r : Expr} {pos : Pos} (hm : notSet r = true) (ha : PE C l (rO R G a)) (hb : PE C r (rO R G b)) : PT C (.Compare l [copE o] [r] pos) (rT R G (.cmp o a b)) := by
  refine (pt_cmpR (opr_cmp (R := R) (by have := A.room.un; omega) A.K) ha hb (marks_not hm)).imp fun σ H Q ⟨F, env, rr, env', bb, S, e, eb, q⟩ => ?_
  simp only [evX] at e
  obtain ⟨⟨x, e1⟩, h1, e⟩ := Res.bind_ok e
  obtain ⟨⟨y, e2⟩, h2, e⟩ := Res.bind_ok e
  obtain ⟨dx, r1, e⟩ := Res.bind_ok e
  obtain ⟨dy, r2, e⟩ := Res.bind_ok e
  obtain ⟨rv, h3, e⟩ := Res.bind_ok e
  cases e
  cases eb
  exact two_ok S h1 h2 r1 r2 fun z1 z2 F2 H2 st p1 p2 => ⟨F2, dx, dy, bb, st.rep.le, p1, p2, Res.of_ok h3, bb, rfl, q F2 H2 st⟩
end
end PK
end
section
set_option Elab.async false
set_option linter.all false
set_option maxRecDepth 100000
set_option maxHeartbeats 4000000
/-! PkSnd2: expressions, second part. -/
namespace PK
open PySem PySem.Spec PyProof.Rows L2
section
variable {R : RCx} {T : Ck} {G : PK.Gl} {n : Nat} {C : Cx} {sc : Scope} {own : Str → Bool}
theorem cmpI_ok {o : Cop} {dx dy : D} {b : Bool} (h : cmpI o dx dy = some b) : ∃ i j, dx = .int i ∧ dy = .int j ∧ cmpD o dx dy = some b := by
  cases dx <;> first
    | (cases o <;> cases h; done)
    | skip
  cases dy <;> first
    | (cases o <;> cases h; done)
    | skip
  refine ⟨_, _, rfl, rfl, ?_⟩
  rw [← h]
  cases o <;> first
    | rfl
    | (simp only [cmpI, cmpD, shal, eqD, Bool.and_self, if_true]
       congr 1
       first | rfl | (simp only [Bool.beq_eq_decide_eq]) | (rw [Bool.eq_iff_iff]; simp))
    | cases h
theorem p_chain (A : At R T G n C sc own) {o p : Cop} {a b c : X} {l r w : Expr} {pos : Pos} (hm : notSet w = true) (ha : PE C l (rF R G a)) (hb : PE C r (rF R G b)) (hc : PE C w (rF R G c)) : PE C (.Compare l [copE o, copE p] [r, w] pos) (rE R G (.chain o p a b c)) := by
  have hu : C.A.units + 65 < cLine := by have := A.room.un; omega
  refine (pe_chain (opr_cmp (R := R) (o := o) hu A.K) (opr_cmp (R := R) (o := p) hu A.K) ha hb hc (marks_not hm)).imp fun σ H Q ⟨F, env, rr, env', S, e, q⟩ => ?_
  simp only [evX] at e
  obtain ⟨⟨x, e1⟩, h1, e⟩ := Res.bind_ok e
  obtain ⟨⟨y, e2⟩, h2, e⟩ := Res.bind_ok e
  obtain ⟨k, h3, e⟩ := Res.bind_ok e
  obtain ⟨i, j, hi, hj, hk⟩ := cmpI_ok (Res.of_ok h3)
  refine ⟨F, env, x, e1, S, h1, fun z1 F1 H1 st1 p1 => ⟨F1, e1, y, e2, st1.rep, h2, fun z2 F2 H2 st2 p2 => ⟨F2, _, _, k, st2.rep.le, .inl (p1.mono st2.fr.mono), .inl p2, hk, k, rfl, ?_⟩⟩⟩
  cases k with
  | false =>
    cases e
    rw [if_neg Bool.false_ne_true]
    exact q _ F2 H2 (st1.trans st2) rfl
  | true =>
    obtain ⟨⟨v, e3⟩, h4, e⟩ := Res.bind_ok e
    obtain ⟨k2, h5, e⟩ := Res.bind_ok e
    cases e
    obtain ⟨i', j', hi', hj', hk'⟩ := cmpI_ok (Res.of_ok h5)
    rw [if_pos rfl]
    exact ⟨F2, e2, v, _, st2.rep, h4, fun z3 F3 H3 st3 p3 => ⟨F3, _, _, k2, st3.rep.le, .inl (p2.mono st3.fr.mono), .inl p3, hk', q _ F3 H3 ((st1.trans st2).trans st3) rfl⟩⟩
theorem p_ite {c a b : X} {t l r : Expr} {pos : Pos} (hc : PT C t (rT R G c)) (ha : PE C l (rE R G a)) (hb : PE C r (rE R G b)) : PE C (.IfExp t l r pos) (rE R G (.ite c a b)) := by
  refine (pe_ifExp hc ha hb).imp fun σ H Q ⟨F, env, rr, env', S, e, q⟩ => ?_
  simp only [evX] at e
  obtain ⟨⟨x, e1⟩, h1, e⟩ := Res.bind_ok e
  obtain ⟨k, h2, e⟩ := Res.bind_ok e
  refine ⟨F, env, x, e1, k, S, h1, h2, fun F1 H1 st1 => ?_⟩
  cases k with
  | true =>
    rw [if_pos rfl]
    exact ⟨F1, e1, rr, env', st1.rep, e, fun z F2 H2 st2 vo => q z F2 H2 (st1.trans st2) (vo.back st1.fr.live)⟩
  | false =>
    rw [if_neg Bool.false_ne_true]
    exact ⟨F1, e1, rr, env', st1.rep, e, fun z F2 H2 st2 vo => q z F2 H2 (st1.trans st2) (vo.back st1.fr.live)⟩
/-! ### tests -/
theorem pt_plain {x : X} {e : Expr} (hp : plainT e = true) (h : PE C e (rE R G x)) : PT C e (rT R G x) := by
  refine (pt_val h (plain_true hp)).imp fun σ H Q ⟨F, env, r, env', b, S, e, eb, q⟩ => ⟨F, env, r, env', S, e, fun z F' H' st vo => ?_⟩
  rw [tst_ok eb] at vo
  exact ⟨b, vo.bl, q F' H' st⟩
theorem pt_not' {a : X} {l : Expr} {pos : Pos} (ha : PT C l (rT R G a)) : PT C (.UnaryOp .Not l pos) (rT R G (.not a)) := by
  refine (pt_not ha).imp fun σ H Q ⟨F, env, r, env', b, S, e, eb, q⟩ => ?_
  simp only [evX] at e
  obtain ⟨⟨x, e1⟩, h1, e⟩ := Res.bind_ok e
  obtain ⟨k, h2, e⟩ := Res.bind_ok e
  cases e
  cases eb
  exact ⟨F, env, x, _, k, S, h1, h2, fun F' H' st => q F' H' st⟩
theorem pt_and' {a b : X} {l r : Expr} {rest : List Expr} {pos : Pos} (ha : PT C l (rT R G a)) (hb : PW C (.BoolOp .And (r :: rest) pos) (rT R G b)) : PT C (.BoolOp .And (l :: r :: rest) pos) (rT R G (.and a b)) := by
  refine (pw_and ha hb).pt.imp fun σ H Q ⟨F, env, rr, env', bb, S, e, eb, q⟩ => ?_
  simp only [evX] at e
  obtain ⟨⟨x, e1⟩, h1, e⟩ := Res.bind_ok e
  obtain ⟨t, h2, e⟩ := Res.bind_ok e
  refine ⟨F, env, x, e1, t, S, h1, h2, fun F' H' st => ?_⟩
  cases t with
  | true =>
    rw [if_pos rfl]
    exact ⟨F', e1, rr, env', bb, st.rep, e, eb, fun F2 H2 st2 => q F2 H2 (st.trans st2)⟩
  | false =>
    rw [if_neg Bool.false_ne_true]
    cases e
    cases eb
    exact q F' H' st
theorem pt_or' {a b : X} {l r : Expr} {rest : List Expr} {pos : Pos} (ha : PT C l (rT R G a)) (hb : PW C (.BoolOp .Or (r :: rest) pos) (rT R G b)) : PT C (.BoolOp .Or (l :: r :: rest) pos) (rT R G (.or a b)) := by
  refine (pw_or ha hb).pt.imp fun σ H Q ⟨F, env, rr, env', bb, S, e, eb, q⟩ => ?_
  simp only [evX] at e
  obtain ⟨⟨x, e1⟩, h1, e⟩ := Res.bind_ok e
  obtain ⟨t, h2, e⟩ := Res.bind_ok e
  refine ⟨F, env, x, e1, t, S, h1, h2, fun F' H' st => ?_⟩
  cases t with
  | false =>
    rw [if_neg Bool.false_ne_true]
    exact ⟨F', e1, rr, env', bb, st.rep, e, eb, fun F2 H2 st2 => q F2 H2 (st.trans st2)⟩
  | true =>
    rw [if_pos rfl]
    cases e
    cases eb
    exact q F' H' st
theorem pt_ite' {c a b : X} {t l r : Expr} {pos : Pos} (hc : PT C t (rT R G c)) (ha : PT C l (rT R G a)) (hb : PT C r (rT R G b)) : PT C (.IfExp t l r pos) (rT R G (.ite c a b)) := by
  refine (pt_ite hc ha hb).imp fun σ H Q ⟨F, env, rr, env', bb, S, e, eb, q⟩ => ?_
  simp only [evX] at e
  obtain ⟨⟨x, e1⟩, h1, e⟩ := Res.bind_ok e
  obtain ⟨k, h2, e⟩ := Res.bind_ok e
  refine ⟨F, env, x, e1, k, S, h1, h2, fun F1 H1 st1 => ?_⟩
  cases k with
  | true =>
    rw [if_pos rfl]
    exact ⟨F1, e1, rr, env', bb, st1.rep, e, eb, fun F2 H2 st2 => q F2 H2 (st1.trans st2)⟩
  | false =>
    rw [if_neg Bool.false_ne_true]
    exact ⟨F1, e1, rr, env', bb, st1.rep, e, eb, fun F2 H2 st2 => q F2 H2 (st1.trans st2)⟩
theorem pt_chain' (A : At R T G n C sc own) {o p : Cop} {a b c : X} {l r w : Expr} {pos : Pos} (hm : notSet w = true) (ha : PE C l (rF R G a)) (hb : PE C r (rF R G b)) (hc : PE C w (rF R G c)) : PT C (.Compare l [copE o, copE p] [r, w] pos) (rT R G (.chain o p a b c)) := by
  have hu : C.A.units + 65 < cLine := by have := A.room.un; omega
  refine (pt_chain (opr_cmp (R := R) (o := o) hu A.K) (opr_cmp (R := R) (o := p) hu A.K) ha hb hc (marks_not hm)).imp fun σ H Q ⟨F, env, rr, env', bb, S, e, eb, q⟩ => ?_
  simp only [evX] at e
  obtain ⟨⟨x, e1⟩, h1, e⟩ := Res.bind_ok e
  obtain ⟨⟨y, e2⟩, h2, e⟩ := Res.bind_ok e
  obtain ⟨k, h3, e⟩ := Res.bind_ok e
  obtain ⟨i, j, hi, hj, hk⟩ := cmpI_ok (Res.of_ok h3)
  refine ⟨F, env, x, e1, S, h1, fun z1 F1 H1 st1 p1 => ⟨F1, e1, y, e2, st1.rep, h2, fun z2 F2 H2 st2 p2 => ⟨F2, _, _, k, st2.rep.le, .inl (p1.mono st2.fr.mono), .inl p2, hk, k, rfl, ?_⟩⟩⟩
  cases k with
  | false =>
    cases e
    cases eb
    rw [if_neg Bool.false_ne_true]
    exact ⟨_, rfl, q F2 H2 (st1.trans st2)⟩
  | true =>
    obtain ⟨⟨v, e3⟩, h4, e⟩ := Res.bind_ok e
    obtain ⟨k2, h5, e⟩ := Res.bind_ok e
    cases e
    cases eb
    obtain ⟨i', j', hi', hj', hk'⟩ := cmpI_ok (Res.of_ok h5)
    rw [if_pos rfl]
    exact ⟨F2, e2, v, _, st2.rep, h4, fun z3 F3 H3 st3 p3 => ⟨F3, _, _, bb, st3.rep.le, .inl (p2.mono st3.fr.mono), .inl p3, hk', _, rfl, q F3 H3 ((st1.trans st2).trans st3)⟩⟩
/-! ### lists of expressions -/
theorem pa_nil' : PA C [] (rXs R G []) := pa_nil.imp fun σ H Q ⟨F, env, ds, env', S, e, q⟩ => by
  simp only [evXs] at e
  cases e
  exact q [] F H (.refl S) rfl
theorem pa_cons' {x : X} {xs : List X} {e : Expr} {es : List Expr} (hs : notStar e = true) (hx : PE C e (rF R G x)) (hr : PA C es (rXs R G xs)) : PA C (e :: es) (rXs R G (x :: xs)) := by
  refine (pa_cons hx hr (star_cons hs)).imp fun σ H Q ⟨F, env, ds, env', S, e, q⟩ => ?_
  simp only [evXs] at e
  obtain ⟨⟨r, e1⟩, h1, e⟩ := Res.bind_ok e
  obtain ⟨⟨rs, e2⟩, h2, e⟩ := Res.bind_ok e
  cases e
  exact ⟨F, env, r, e1, S, h1, fun z F1 H1 st1 p1 => ⟨F1, e1, rs, _, st1.rep, h2, fun vs F2 H2 st2 p2 => q (z :: vs) F2 H2 (st1.trans st2) ⟨z, vs, rfl, p1.mono st2.fr.mono, p2⟩⟩⟩
theorem pao_nil : PA C [] (rOs R G []) := pa_nil.imp fun σ H Q ⟨F, env, ds, env', S, e, q⟩ => by
  simp only [evOs] at e
  cases e
  exact q [] F H (.refl S) rfl
theorem pao_cons {x : X} {xs : List X} {e : Expr} {es : List Expr} (hs : notStar e = true) (hx : PE C e (rO R G x)) (hr : PA C es (rOs R G xs)) : PA C (e :: es) (rOs R G (x :: xs)) := by
  refine (pa_cons hx hr (star_cons hs)).imp fun σ H Q ⟨F, env, ds, env', S, e, q⟩ => ?_
  simp only [evOs] at e
  obtain ⟨⟨r, e1⟩, h1, e⟩ := Res.bind_ok e
  obtain ⟨⟨rs, e2⟩, h2, e⟩ := Res.bind_ok e
  cases e
  exact ⟨F, env, r, e1, S, h1, fun z F1 H1 st1 p1 => ⟨F1, e1, rs, _, st1.rep, h2, fun vs F2 H2 st2 p2 => q (z :: vs) F2 H2 (st1.trans st2) ⟨z, vs, rfl, p1.mono st2.fr.mono, p2⟩⟩⟩
theorem p_tup {es : List X} {as : List Expr} {k : Nat} {pos : Pos} (h : PA C as (rXs R G es)) : PE C (.Tuple as k pos) (rE R G (.tup es)) := by
  refine (pe_tup h).imp fun σ H Q ⟨F, env, rr, env', S, e, q⟩ => ?_
  simp only [evX] at e
  obtain ⟨⟨ds, e1⟩, h1, e⟩ := Res.bind_ok e
  split at e
  · rename_i hz
    cases e
    refine ⟨F, env, ds, _, S, h1, fun vs F1 H1 st p1 => ⟨by rw [p1.length, ← line_eq]; exact hz, fun p hp => ?_⟩⟩
    exact q _ _ _ (st.trans (.pst st.rep (.newF st.rep.le hp))) ((VOk.newT st.rep.le hp p1).back st.fr.live)
  · cases e
theorem p_lst {es : List X} {as : List Expr} {pos : Pos} (h : PA C as (rXs R G es)) : PE C (.List as pos) (rE R G (.lst es)) := by
  refine (pe_lst h).imp fun σ H Q ⟨F, env, rr, env', S, e, q⟩ => ?_
  simp only [evX] at e
  obtain ⟨⟨ds, e1⟩, h1, e⟩ := Res.bind_ok e
  split at e
  · rename_i hz
    cases e
    refine ⟨F, env, ds, _, S, h1, fun vs F1 H1 st p1 => ⟨by rw [p1.length, ← line_eq]; exact hz, fun p hp => ?_⟩⟩
    exact q _ _ _ (st.trans (.pst st.rep (.newO st.rep.le hp))) ((VOk.newL st.rep.le hp p1).back st.fr.live)
  · cases e
theorem p_ix (A : At R T G n C sc own) {a b : X} {l r : Expr} {pos : Pos} (hs : notSlice r = true) (ha : PE C l (rO R G a)) (hb : PE C r (rO R G b)) : PE C (.Subscript l r pos) (rE R G (.ix a b)) := by
  refine (pe_ix (ixr (R := R) A.P A.w (by have := A.room.un; omega) A.K) ha hb (plain_ix hs)).imp fun σ H Q ⟨F, env, rr, env', S, e, q⟩ => ?_
  simp only [evX] at e
  obtain ⟨⟨x, e1⟩, h1, e⟩ := Res.bind_ok e
  obtain ⟨⟨y, e2⟩, h2, e⟩ := Res.bind_ok e
  obtain ⟨dx, r1, e⟩ := Res.bind_ok e
  obtain ⟨dy, r2, e⟩ := Res.bind_ok e
  obtain ⟨rv, h3, e⟩ := Res.bind_ok e
  cases e
  exact two_ok S h1 h2 r1 r2 fun z1 z2 F2 H2 st p1 p2 => ⟨F2, dx, dy, rv, st.rep.le, p1, p2, Res.of_ok h3, fun z hz => q z F2 H2 st hz⟩
/-- a slice's part -/
def rP (R : RCx) (G : PK.Gl) (x : X) : TO := fun σ H Q => ∃ F env r env' i, SRep R F H σ env ∧ evX G x env = .ok (r, env') ∧ optI x r.1 = .ok i ∧ ∀ F' H', StpE R F H σ env F' H' env' → Q i H'
theorem po_no : PO C none (rP R G .no) := ⟨fun pins s σ H Q I ⟨F, env, r, env', i, S, e, ei, q⟩ => by
  simp only [evX] at e
  cases e
  cases ei
  exact po_none.run pins s σ H Q I (q F H (.refl S))⟩
theorem po_x {x : X} {e : Expr} (h : PE C e (rE R G x)) (hn : isNo x = false) : PO C (some e) (rP R G x) :=
  ⟨fun pins s σ H Q I ⟨F, env, r, env', i, S, e, ei, q⟩ => by
    unfold optI at ei
    rw [hn] at ei
    obtain ⟨d, fr⟩ := r
    cases d with
    | int j =>
      cases ei
      refine (po_some h).run pins s σ H Q I ⟨F, env, (.int j, fr), env', S, e, fun z F' H' st vo => ⟨j, ?_, q F' H' st⟩⟩
      cases fr with
      | false => exact vo
      | true => obtain ⟨_, _, _, _, _, c, _⟩ := vo; exact c.elim
    | _ => cases ei⟩
theorem p_sl (A : At R T G n C sc own) {a lo hi : X} {l : Expr} {x y : Option Expr} {p2 pos : Pos} (ha : PE C l (rO R G a)) (hl : PO C x (rP R G lo)) (hh : PO C y (rP R G hi)) : PE C (.Subscript l (.Slice x y none p2) pos) (rE R G (.sl a lo hi)) := by
  refine (pe_slice (slr (R := R) A.K) ha hl hh).imp fun σ H Q ⟨F, env, rr, env', S, e, q⟩ => ?_
  simp only [evX] at e
  obtain ⟨⟨x, e1⟩, h1, e⟩ := Res.bind_ok e
  obtain ⟨⟨l, e2⟩, h2, e⟩ := Res.bind_ok e
  obtain ⟨⟨h, e3⟩, h3, e⟩ := Res.bind_ok e
  obtain ⟨dx, r1, e⟩ := Res.bind_ok e
  obtain ⟨i, hi, e⟩ := Res.bind_ok e
  obtain ⟨j, hj, e⟩ := Res.bind_ok e
  obtain ⟨rv, hr, e⟩ := Res.bind_ok e
  cases e
  refine ⟨F, env, x, e1, S, h1, fun z1 F1 H1 st1 o1 => ⟨F1, e1, l, e2, i, st1.rep, h2, hi, fun F2 H2 st2 => ⟨F2, e2, h, _, j, st2.rep, h3, hj, fun F3 H3 st3 => ?_⟩⟩⟩
  have st := (st1.trans st2).trans st3
  exact ⟨F3, dx, rr, st.rep.le, (o1.mono (st2.fr.mono.trans st3.fr.mono)).read st.rep r1, Res.of_ok hr, fun z F' H' ps vo => q z F' H' (st.trans (.pst st.rep ps)) (vo.back st.fr.live)⟩
/-! ### calls -/
/-- behind a call that borrows nothing -/
theorem StpE.called {F H F' H' : Hp} {σ : L2.St} {env : Env} (S : SRep R F H σ env) (l : Le F' H') (f : Fr Nob Nob F H F' H') : StpE R F H σ env F' H' env := by
  refine .pst S ⟨f.mono, fun a o e => f.keep a o e (fun z => z), fun a o e => ?_, l⟩
  rcases f.new a o e with z | z | z
  · exact .inl z
  · exact .inr z
  · exact z.elim
/-- behind a call that borrows the list at a0 -/
theorem StpE.lent {F H F' H' : Hp} {σ : L2.St} {env : Env} {i : Nat} {k : Ow} {d d' : D} {a0 : Addr} {o' : HO} (S : SRep R F H σ env) (hi : at_ env i = some (k, d)) (hk : k ≠ .f) (hs : σ[i]? = some (some (.ref a0))) (l : Le F' H') (f : Fr (fun a => a = a0) (fun a => a = a0) F H F' H')
    (h1 : F' a0 = none) (h2 : H' a0 = some o') (h3 : CRep R F' o' d') : StpE R F H σ env F' H' (put env i (some (k, d'))) := by
  have at1 : ∀ {j l e}, at_ (put env i (some (k, d'))) j = some (l, e) → ∃ e0, at_ env j = some (l, e0) := fun {j l e} q => by
    rcases at_put q with ⟨x, y⟩ | ⟨x, y⟩
    · subst x; cases y; exact ⟨d, hi⟩
    · exact ⟨e, y⟩
  refine ⟨⟨l, by rw [put_length]; exact S.len, fun j m e q => ?_, fun a b k1 k2 d1 d2 c q1 n1 q2 n2 => ?_⟩, ⟨f.mono, fun a o e n => f.keep a o e fun z => n (by subst z; exact ⟨i, k, d, hi, hk, hs⟩), fun a o e => ?_, fun a h => ?_, f.live⟩, fun j m e q _ => at1 q⟩
  · rcases at_put q with ⟨x, y⟩ | ⟨x, y⟩
    · subst x
      cases y
      refine ⟨_, hs, ?_⟩
      cases k with
      | f => exact absurd rfl hk
      | o => exact ⟨a0, o', rfl, h1, h2, h3⟩
      | io => exact ⟨a0, o', rfl, h1, h2, h3⟩
    · obtain ⟨v, hv, hsl⟩ := S.get j m e y
      refine ⟨v, hv, ?_⟩
      have step : ∀ {a : Addr} {o : HO}, m ≠ .f → v = .ref a → F a = none → H a = some o → F' a = none ∧ H' a = some o := fun {a o} hm ev hf hh => by
        subst ev
        have ne : a ≠ a0 := fun z => by subst z; exact x (S.inj i j k m d e a hi hk y hm hs hv)
        refine ⟨?_, f.keep a o hh ne⟩
        cases z : F' a with
        | none => rfl
        | some u =>
          rcases f.new a u z with w | w | w
          · rw [hf] at w; cases w
          · rw [hh] at w; cases w
          · exact absurd w ne
      cases m with
      | f => exact Rep.mono f.mono hsl
      | o =>
        obtain ⟨a, o, e1, e2, e3, e4⟩ := hsl
        obtain ⟨s1, s2⟩ := step (by decide) e1 e2 e3
        exact ⟨a, o, e1, s1, s2, e4.mono f.mono⟩
      | io =>
        obtain ⟨a, o, e1, e2, e3, e4⟩ := hsl
        obtain ⟨s1, s2⟩ := step (by decide) e1 e2 e3
        exact ⟨a, o, e1, s1, s2, e4.mono f.mono⟩
  · obtain ⟨d1', q1⟩ := at1 q1
    obtain ⟨d2', q2⟩ := at1 q2
    exact S.inj a b k1 k2 d1' d2' c q1 n1 q2 n2
  · rcases f.new a o e with z | z | z
    · exact .inl z
    · exact .inr (.inl z)
    · exact .inr (.inr (by rw [show a = a0 from z]; exact ⟨i, k, d, hi, hk, hs⟩))
  · obtain ⟨j, m, e, q, hm, hv⟩ := h
    obtain ⟨e0, q0⟩ := at1 q
    exact .inl ⟨j, m, e0, q0, hm, hv⟩
theorem p_call0 (A : At R T G n C sc own) {f : Nat} {x : Str} {es : List X} {a : Expr} {as : List Expr} {p pos : Pos} (hf : (f, x) ∈ T.fns) (hx : glbB sc x = true) (hio : G.io f = false) (hs : (a :: as).all notStar = true) (ha : PA C (a :: as) (rXs R G es)) : PE C (.Call (.Name x p) (a :: as) [] pos) (rE R G (.call f es)) := by
  obtain ⟨ad, fd, ps, hm, hk, hb, F0⟩ := A.glo f x hf
  obtain ⟨g1, g2, _⟩ := A.gl hx
  rw [List.all_cons, Bool.and_eq_true] at hs
  refine (pe_call F0 A.room g1 hm hk hb .nil pass0 ha g2 (star_cons hs.1) (star_plain hs.2)).imp fun σ H Q ⟨F, env, rr, env', S, e, q⟩ => ?_
  simp only [evX, hio] at e
  obtain ⟨⟨ds, e1⟩, h1, e⟩ := Res.bind_ok e
  obtain ⟨⟨d, fr, l⟩, h2, e⟩ := Res.bind_ok e
  cases e
  refine ⟨F, env, ds, _, S, h1, fun vs F1 H1 st p1 => ?_⟩
  show spOf R (G.io f) (G.F f) (vs ++ []) H1 Q E0
  rw [List.append_nil]
  refine ⟨F1, ds, _, st.rep.le, h2, ?_⟩
  rw [hio]
  exact ⟨p1, fun z F' H' l f vo => q z F' H' (st.trans (.called st.rep l f)) (vo.back st.fr.live)⟩
theorem p_callIo (A : At R T G n C sc own) {f i : Nat} {x : Str} {es : List X} {a : Expr} {as : List Expr} {p pos : Pos} (hf : (f, x) ∈ T.fns) (hx : glbB sc x = true) (hio : G.io f = true) (hs : (a :: as).all notStar = true) (hv : PE C a (tVar i)) (ha : PA C as (rXs R G es)) : PE C (.Call (.Name x p) (a :: as) [] pos) (rE R G (.call f (.v i :: es))) := by
  obtain ⟨ad, fd, ps, hm, hk, hb, F0⟩ := A.glo f x hf
  obtain ⟨g1, g2, _⟩ := A.gl hx
  rw [List.all_cons, Bool.and_eq_true] at hs
  refine (pe_call F0 A.room g1 hm hk hb .nil pass0 (pa_cons hv ha (star_cons hs.1)) g2 (star_cons hs.1) (star_plain hs.2)).imp fun σ H Q ⟨F, env, rr, env', S, e, q⟩ => ?_
  simp only [evX, hio, name1, isName, evXt] at e
  split at e
  · rename_i y hy
    obtain ⟨⟨ds, e1⟩, h1, e⟩ := Res.bind_ok e
    obtain ⟨vi, hvi, _⟩ := S.get i y.1 y.2 hy
    refine ⟨vi, hvi, F, env, ds, e1, S, h1, fun vs F1 H1 st p1 => ?_⟩
    show spOf R (G.io f) (G.F f) ((vi :: vs) ++ []) H1 Q E0
    rw [List.append_nil]
    simp only [callIo] at e
    split at e
    · cases e
    · rename_i k d hat hk2
      obtain ⟨⟨dr, fr, l⟩, h2, e⟩ := Res.bind_ok e
      simp only [backIo, hk2] at e
      cases e
      have hkf : k ≠ .f := hat
      obtain ⟨v2, hv2, hsl⟩ := st.rep.get i k d hk2
      rw [hvi] at hv2
      cases hv2
      have own : ∃ a o, vi = V.ref a ∧ F1 a = none ∧ H1 a = some o ∧ CRep R F1 o d := by
        cases k with
        | f => exact absurd rfl hkf
        | o => exact hsl
        | io => exact hsl
      obtain ⟨a0, o, rfl, hf0, hh0, hc0⟩ := own
      refine ⟨F1, d :: ds, _, st.rep.le, h2, ?_⟩
      rw [hio]
      exact ⟨d, ds, a0, o, vs, rfl, rfl, hf0, hh0, hc0, p1, fun z F' H' o' l f e1 e2 e3 vo => q z F' H' (st.trans (.lent st.rep hk2 hkf hvi l f e1 e2 e3)) (vo.back st.fr.live)⟩
    · cases e
  · cases e
end
end PK
end
section
set_option Elab.async false
set_option linter.all false
set_option maxRecDepth 100000
set_option maxHeartbeats 4000000
/-! PkSnd3: expressions, third part: built-ins, methods, what is walked, comprehensions. -/
namespace PK
open PySem PySem.Spec PyProof.Rows L2
section
variable {R : RCx} {T : Ck} {G : PK.Gl} {n : Nat} {C : Cx} {sc : Scope} {own : Str → Bool}
theorem bi_go {f : Bi} {es : List X} : ∀ σ H Q, rE R G (.bi f es) σ H Q → tCB (rBi R f) (rOs R G es) σ H Q := fun σ H Q ⟨F, env, rr, env', S, e, q⟩ => by
  simp only [evX] at e
  obtain ⟨⟨os, e1⟩, h1, e⟩ := Res.bind_ok e
  obtain ⟨ds, h2, e⟩ := Res.bind_ok e
  obtain ⟨rv, h3, e⟩ := Res.bind_ok e
  cases e
  exact ⟨F, env, os, _, S, h1, fun vs F1 H1 st p1 => ⟨F1, ds, rr, st.rep.le, p1.read st.rep h2, Res.of_ok h3, fun z F' H' ps vo => q z F' H' (st.trans (.pst st.rep ps)) (vo.back st.fr.live)⟩⟩
theorem p_bi (A : At R T G n C sc own) {f : Bi} {nm : String} {es : List X} {a : Expr} {as : List Expr} {p pos : Pos} (hn : biN f = some nm) (hfr : Str.ofString nm ∈ T.free) (hx : glbB sc (Str.ofString nm) = true) (hs : (a :: as).all notStar = true) (ha : PA C (a :: as) (rOs R G es)) :
    PE C (.Call (.Name (Str.ofString nm) p) (a :: as) [] pos) (rE R G (.bi f es)) := by
  obtain ⟨g1, g2, g3⟩ := A.gl hx
  have hm := A.free _ hfr
  rw [List.all_cons, Bool.and_eq_true] at hs
  have s1 := star_cons (env := C.env) (es := as) hs.1
  have s2 := star_plain (env := C.env) (pos := pos) hs.2
  have b : ∀ {id : String}, CallR C (.builtin id) (rBi R f) → bootBuiltins (Str.ofString nm) = some (.builtin id) → PE C (.Call (.Name (Str.ofString nm) p) (a :: as) [] pos) (rE R G (.bi f es)) := fun hc hv =>
    (pe_callB hc g1 hm hv ha g3 g2 s1 s2).imp bi_go
  have t : ∀ {ty : String}, CallR C (.type ty) (rBi R f) → bootBuiltins (Str.ofString nm) = some (.type ty) → PE C (.Call (.Name (Str.ofString nm) p) (a :: as) [] pos) (rE R G (.bi f es)) := fun hc hv =>
    (pe_callTy hc g1 hm hv ha g3 g2 s1 s2).imp bi_go
  cases f with
  | len => cases hn; exact b (callr_len A.K) boot_len
  | abs => cases hn; exact b callr_abs boot_abs
  | tuple => cases hn; exact t (callr_tuple A.K) boot_tuple
  | list => cases hn; exact t (callr_list A.K) boot_list
  | all => cases hn; exact b (callr_all A.calm) boot_all
  | min2 => cases hn; exact b (callr_min2 A.calm) boot_min
  | max2 => cases hn; exact b (callr_max2 A.calm) boot_max
  | maxL => cases hn; exact b (callr_max A.calm) boot_max
  | intOf => cases hn; exact t callr_int boot_int
  | dictOf => cases hn; exact t (callr_dict A.P A.w (by have := A.room.un; omega) A.calm A.K) PyProof.Rows.boot_dict
  | _ => cases hn
theorem p_isi (A : At R T G n C sc own) {t : Ty} {x : X} {a : Expr} {p p2 pos : Pos} (hfr : ("isinstance" : Str) ∈ T.free) (hx : glbB sc ("isinstance" : Str) = true) (hfr2 : Str.ofString (tyN t) ∈ T.free) (hy : glbB sc (Str.ofString (tyN t)) = true) (hs : notStar a = true) (ha : PE C a (rO R G x)) :
    PE C (.Call (.Name ("isinstance" : Str) p) [a, .Name (Str.ofString (tyN t)) p2] [] pos) (rE R G (.bi (.isi t) [x])) := by
  obtain ⟨g1, g2, g3⟩ := A.gl hx
  obtain ⟨k1, k2, k3⟩ := A.gl hy
  have pt : PE C (.Name (Str.ofString (tyN t)) p2) (tC (.ty (tyN t))) := pe_bltn k1 (A.free _ hfr2) (boot_ty t) rfl k3 k2
  refine (pe_callB (callr_isi (R := R) A.K t) g1 (A.free _ hfr) boot_isinstance (pa_cons ha (pa_cons pt pa_nil rfl) (star_cons hs)) g3 g2 (star_cons hs) (star_plain rfl)).imp fun σ H Q ⟨F, env, rr, env', S, e, q⟩ => ?_
  simp only [evX, evOs] at e
  obtain ⟨⟨os, e1⟩, h1, e⟩ := Res.bind_ok e
  obtain ⟨⟨o, e2⟩, h0, h1⟩ := Res.bind_ok h1
  cases h1
  obtain ⟨ds, h2, e⟩ := Res.bind_ok e
  obtain ⟨rv, h3, e⟩ := Res.bind_ok e
  cases e
  simp only [readOs] at h2
  obtain ⟨d, h6, h5⟩ := Res.bind_ok h2
  cases h5
  have h4 := Res.of_ok h3
  simp only [biD] at h4
  split at h4
  · rename_i hd
    cases h4
    refine ⟨F, env, o, _, S, h0, fun z F1 H1 st p1 => ⟨F1, d, z, st.rep.le, rfl, p1.read st.rep h6, ?_, ?_, q _ F1 H1 st rfl⟩⟩
    · cases d <;> first | rfl | cases hd
    · intro xs ex
      subst ex
      cases hd
  · cases h4
theorem rng_rep {F : Hp} : ∀ (n : Nat) (lo : Int), RepL R F (rangeD lo n) ((List.range n).map fun i => V.int (lo + (i : Nat)))
  | 0, lo => by simp [rangeD, RepL]
  | n + 1, lo => by
    rw [List.range_succ_eq_map, List.map_cons, List.map_map, rangeD]
    unfold RepL
    refine ⟨_, _, rfl, ?_, ?_⟩
    · show V.int (lo + ((0 : Nat) : Int)) = V.int lo
      simp
    · have e : ((fun i : Nat => V.int (lo + (i : Nat))) ∘ Nat.succ) = fun i : Nat => V.int (lo + 1 + (i : Nat)) := by
        funext i
        show V.int (lo + ((i + 1 : Nat) : Int)) = _
        congr 1
        omega
      rw [e]
      exact rng_rep n (lo + 1)
/-- list(range(n)) -/
theorem p_range1 (A : At R T G n C sc own) {x : X} {a : Expr} {p p2 pos2 pos : Pos} (hfr : ("list" : Str) ∈ T.free) (hx : glbB sc ("list" : Str) = true) (hfr2 : ("range" : Str) ∈ T.free) (hy : glbB sc ("range" : Str) = true) (hs : notStar a = true) (ha : PE C a (rO R G x)) :
    PE C (.Call (.Name ("list" : Str) p) [.Call (.Name ("range" : Str) p2) [a] [] pos2] [] pos) (rE R G (.bi .range1 [x])) := by
  obtain ⟨g1, g2, g3⟩ := A.gl hx
  obtain ⟨k1, k2, k3⟩ := A.gl hy
  refine (pe_listRg A.calm g1 (A.free _ hfr) (prg_1 k1 (A.free _ hfr2) ha (star_cons hs))).imp fun σ H Q ⟨F, env, rr, env', S, e, q⟩ => ?_
  simp only [evX, evOs] at e
  obtain ⟨⟨os, e1⟩, h1, e⟩ := Res.bind_ok e
  obtain ⟨⟨o, e2⟩, h0, h1⟩ := Res.bind_ok h1
  cases h1
  obtain ⟨ds, h2, e⟩ := Res.bind_ok e
  obtain ⟨rv, h3, e⟩ := Res.bind_ok e
  cases e
  simp only [readOs] at h2
  obtain ⟨d, h6, h5⟩ := Res.bind_ok h2
  cases h5
  have h4 := Res.of_ok h3
  cases d with
  | int i =>
    simp only [biD] at h4
    split at h4
    · rename_i hd
      cases h4
      simp only [Bool.and_eq_true, decide_eq_true_eq, rngOk] at hd
      refine ⟨F, env, o, _, S, h0, fun z F1 H1 st p1 => ⟨i, (p1.read st.rep h6).int, ⟨by decide, by decide, by omega, by omega, ?_⟩, fun p hp => ?_⟩⟩
      · have := hd.2
        rw [Int.sub_zero]
        simpa [line] using this
      · refine q _ _ _ (st.trans (.pst st.rep (.newO st.rep.le hp))) ((VOk.newL st.rep.le hp ?_).back st.fr.live)
        have := rng_rep (R := R) (F := F1) i.toNat 0
        unfold rgV
        rw [Int.sub_zero]
        exact this
    · cases h4
  | _ => simp [biD] at h4
theorem SRep.str {F H : Hp} {σ : L2.St} {env : Env} {o : Op} {z : V} {s : List Nat} (S : SRep R F H σ env) (h : OpV R F σ o z) (e : readO o env = .ok (.str s)) : z = strV s := (h.read S e).str
/-- a method of a built-in type -/
theorem p_mt (A : At R T G n C sc own) {m : Mt} {o : X} {nm : String} {es : List X} {l a : Expr} {apos cpos : Pos} (hn : mtNm m = some nm) (hb : notCall0 l = true) (hs : notStar a = true) (hl : (apos.endLine == cpos.line) = true) (ho : PE C l (rO R G o)) (ha : PA C [a] (rOs R G es)) :
    PE C (.Call (.Attribute l (Str.ofString nm) apos) [a] [] cpos) (rE R G (.mt m o es)) := by
  have s1 := star_cons (env := C.env) (es := []) hs
  have few : ((backTo cpos (starEach [a] C.env)).all (fun x => !x.1) && (backToKw cpos (keywordEach [] C.env)).all (fun x => x.1.isSome) && decide ([a].length + ([] : List Keyword).length + (if ([] : List Keyword).isEmpty then 0 else 1) < 30)) = true := by
    rw [star_few (by rw [List.all_cons, hs]; rfl)]
    rfl
  have hu : C.A.units + 65 < cLine := by have := A.room.un; omega
  refine ⟨fun pins s σ H Q I h => ?_⟩
  obtain ⟨F, env, rr, env', S, e, q⟩ := h
  simp only [evX] at e
  obtain ⟨⟨x, e1⟩, h1, e⟩ := Res.bind_ok e
  obtain ⟨d0, r0, e⟩ := Res.bind_ok e
  obtain ⟨⟨os, e2⟩, h2, e⟩ := Res.bind_ok e
  obtain ⟨dx, r1, e⟩ := Res.bind_ok e
  obtain ⟨ds, r2, e⟩ := Res.bind_ok e
  split at e
  · rename_i hk
    obtain ⟨rv, h3, e⟩ := Res.bind_ok e
    cases e
    have h4 := Res.of_ok h3
    -- the reading behind the receiver and the arguments
    have go : ∀ (r : V → List V → Hp → VK → Prop) (ty : String), (∀ z1 F1 H1, Le F1 H1 → RdR R F1 H1 d0 z1 → tyV C.K ty z1 H1) → (∀ z1 vs F2 H2 (Q : VK), Le F2 H2 → RdR R F2 H2 dx z1 → rMt R m z1 vs H2 Q → r z1 vs H2 Q) → tBM C.K ty r (rO R G o) (rOs R G es) σ H Q := fun r ty ht hr =>
      ⟨F, env, x, e1, S, h1, fun z1 F1 H1 st1 o1 => ⟨ht z1 F1 H1 st1.rep.le (o1.read st1.rep r0), F1, e1, os, _, st1.rep, h2, fun vs F2 H2 st2 p2 => by
        have st := st1.trans st2
        have rd := (o1.mono st2.fr.mono).read st.rep r1
        exact hr z1 vs F2 H2 Q st.rep.le rd ⟨F2, dx, ds, rr, st.rep.le, rd, p2.read st.rep r2, h4, fun z F' H' ps vo => q z F' H' (st.trans (.pst st.rep ps)) (vo.back st.fr.live)⟩⟩⟩
    have isStr : (∃ t, dx = D.str t) → ∃ t0, d0 = D.str t0 := fun ⟨t, ed⟩ => by
      subst ed
      cases d0 <;> first | exact ⟨_, rfl⟩ | cases hk
    have isLst : (∃ t, dx = D.lst t) → ∃ t0, d0 = D.lst t0 := fun ⟨t, ed⟩ => by
      subst ed
      cases d0 <;> first | exact ⟨_, rfl⟩ | cases hk
    have tyS : (∃ t0, d0 = D.str t0) → ∀ z1 F1 H1, Le F1 H1 → RdR R F1 H1 d0 z1 → tyV C.K "str" z1 H1 := fun ⟨t0, ed⟩ z1 F1 H1 l r => by
      subst ed
      cases r.str
      exact rfl
    have tyL : (∃ t0, d0 = D.lst t0) → ∀ z1 F1 H1, Le F1 H1 → RdR R F1 H1 d0 z1 → tyV C.K "list" z1 H1 := fun ⟨t0, ed⟩ z1 F1 H1 l r => by
      subst ed
      obtain ⟨a, vs, rfl, ha, _⟩ := r.lst l
      exact .inl ⟨rfl, vs, SqL.of ha⟩
    cases m with
    | index =>
      cases hn
      match dx, ds, h4, isStr, isLst, go with
      | .str t, [.str [c]], h4, isStr, isLst, go =>
        exact (pe_bm PySem.F.plainAttrs_str PySem.F.slot_str_index PySem.F.type_str_index mtr_sindex ho ha (base_not hb) few hl s1 rfl).run pins s σ H Q I (go _ _ (tyS (isStr ⟨_, rfl⟩)) fun z1 vs F2 H2 Q l rd hm => ⟨hm, _, rd.str⟩)
      | .lst ys, [y], h4, isStr, isLst, go =>
        exact (pe_bm PySem.F.plainAttrs_list PySem.F.slot_list_index PySem.F.type_list_index (mtr_lindex hu A.K) ho ha (base_not hb) few hl s1 rfl).run pins s σ H Q I (go _ _ (tyL (isLst ⟨_, rfl⟩)) fun z1 vs F2 H2 Q l rd hm => ⟨hm, by
          obtain ⟨a, _, e, _⟩ := rd.lst l
          exact ⟨a, e⟩⟩)
    | join =>
      cases hn
      match dx, ds, h4, isStr, go with
      | .str t, [.lst ys], h4, isStr, go =>
        exact (pe_bm PySem.F.plainAttrs_str PySem.F.slot_str_join PySem.F.type_str_join (mtr_join A.K) ho ha (base_not hb) few hl s1 rfl).run pins s σ H Q I (go _ _ (tyS (isStr ⟨_, rfl⟩)) fun z1 vs F2 H2 Q l rd hm => hm)
    | _ => cases hn
  · cases e
end
end PK
end
section
set_option Elab.async false
set_option linter.all false
set_option maxRecDepth 100000
set_option maxHeartbeats 4000000
/-! PkSnd4: what is walked, targets. -/
namespace PK
open PySem PySem.Spec PyProof.Rows L2
/-- the iterator yields the data ds -/
def JOk (R : RCx) (J : It) (F : Hp) (ds : List D) : Prop := ∀ i F' H', Le F F' → Le F' H' → i ≤ ds.length → (i = ds.length ∧ J.stop i H') ∨ ∃ d, ds[i]? = some d ∧ J.go i H' ∧ ∀ x H2, J.yld i H' x H2 → ∃ F2, PSt F' H' F2 H2 ∧ Rep R F2 d x
def rI (R : RCx) (G : PK.Gl) (it : X) : TI := fun σ H Rr => ∃ F env r env' ds, SRep R F H σ env ∧ evX G it env = .ok (r, env') ∧ items r.1 = .ok ds ∧ ∀ J F' H', StpE R F H σ env F' H' env' → JOk R J F' ds → Rr J H'
section
variable {R : RCx} {F : Hp}
theorem jok_list {K : PySem.W.Frag} {ds : List D} {a : Addr} {vs : List V} (h : F a = some (.lst vs)) (r : RepL R F ds vs) : JOk R (Itl K a) F ds := fun i F' H' l l' hi => by
  have hs : SqL K H' a vs := SqL.of (l' _ _ (l _ _ h))
  have hl := r.length
  by_cases e : i = ds.length
  · exact .inl ⟨e, vs, hs, by omega⟩
  · have hlt : i < ds.length := by omega
    obtain ⟨v, hv, rv⟩ := r.get (List.getElem?_eq_getElem hlt)
    refine .inr ⟨_, List.getElem?_eq_getElem hlt, ⟨vs, v, hs, hv⟩, fun x H2 ⟨e1, y⟩ => ⟨F', by subst e1; exact .refl l', ?_⟩⟩
    have := y vs hs
    rw [hv] at this
    cases this
    exact rv.mono l
theorem jok_tup {ds : List D} {a : Addr} {vs : List V} (h : SqT R.K F a vs) (r : RepL R F ds vs) : JOk R (Itt R.K a) F ds := fun i F' H' l l' hi => by
  have hs : SqT R.K H' a vs := l'.sqT (l.sqT h)
  have hl := r.length
  by_cases e : i = ds.length
  · exact .inl ⟨e, vs, hs, by omega⟩
  · have hlt : i < ds.length := by omega
    obtain ⟨v, hv, rv⟩ := r.get (List.getElem?_eq_getElem hlt)
    refine .inr ⟨_, List.getElem?_eq_getElem hlt, ⟨vs, v, hs, hv⟩, fun x H2 ⟨e1, y⟩ => ⟨F', by subst e1; exact .refl l', ?_⟩⟩
    have := y vs hs
    rw [hv] at this
    cases this
    exact rv.mono l
theorem jok_str {s : List Nat} : JOk R (Its ⟨s.toArray⟩) F (s.map fun c => D.str [c]) := fun i F' H' l l' hi => by
  simp only [List.length_map] at hi ⊢
  by_cases e : i = s.length
  · exact .inl ⟨e, show s.toArray.size ≤ i by simp; omega⟩
  · have hlt : i < s.length := by omega
    refine .inr ⟨.str [s[i]], by simp [hlt], (show i < s.toArray.size by simpa using hlt), fun x H2 y => ?_⟩
    obtain ⟨e1, c, hc, rfl⟩ := y
    refine ⟨F', by subst e1; exact .refl l', ?_⟩
    have : s[i] = c := by
      have : s[i]? = some c := by simpa using hc
      rw [List.getElem?_eq_getElem hlt] at this
      exact Option.some.inj this
    rw [this]
    rfl
theorem rangeD_length (lo : Int) : ∀ n, (rangeD lo n).length = n
  | 0 => rfl
  | n + 1 => by rw [rangeD, List.length_cons, rangeD_length (lo + 1) n]
theorem rangeD_get : ∀ (n : Nat) (lo : Int) (i : Nat), i < n → (rangeD lo n)[i]? = some (.int (lo + i))
  | n + 1, lo, 0, _ => by simp [rangeD]
  | n + 1, lo, i + 1, h => by
    rw [rangeD, List.getElem?_cons_succ, rangeD_get n (lo + 1) i (by omega)]
    congr 2
    omega
theorem jok_range {lo : Int} {n : Nat} : JOk R (Itr lo n) F (rangeD lo n) := fun i F' H' l l' hi => by
  rw [rangeD_length] at hi ⊢
  by_cases e : i = n
  · exact .inl ⟨e, show n ≤ i by omega⟩
  · have hlt : i < n := by omega
    refine .inr ⟨_, rangeD_get n lo i hlt, hlt, fun x H2 ⟨e1, y⟩ => ⟨F', by subst e1; exact .refl l', y⟩⟩
/-- what a datum is walked as -/
theorem sk_of {H : Hp} {d : D} {z : V} {ds : List D} (l : Le F H) (h : Rep R F d z) (e : items d = .ok ds) : ∃ p xs, z = SK.v p ∧ (∀ H', Le F H' → p.at R.K H' xs) ∧ RepL R F ds xs := by
  cases d with
  | lst ys =>
    cases e
    unfold Rep at h
    obtain ⟨a, vs, rfl, ha, ra⟩ := h
    exact ⟨.l a, vs, rfl, fun H' l' => SqL.of (l' _ _ ha), ra⟩
  | tup ys =>
    cases e
    unfold Rep at h
    obtain ⟨a, vs, rfl, ha, ra⟩ := h
    exact ⟨.t a, vs, rfl, fun H' l' => l'.sqT ha, ra⟩
  | str s =>
    cases e
    cases (show z = strV s from h)
    refine ⟨.s ⟨s.toArray⟩, signs ⟨s.toArray⟩, rfl, fun _ _ => rfl, ?_⟩
    unfold signs
    induction s with
    | nil => rfl
    | cons c s ih =>
      simp only [List.map_cons]
      exact ⟨_, _, rfl, rfl, by simpa using ih rfl⟩
  | _ => cases e
theorem zipD_length : ∀ (xs ys : List D), (zipD xs ys).length = min xs.length ys.length
  | [], ys => by simp [zipD]
  | _ :: _, [] => by simp [zipD]
  | x :: xs, y :: ys => by
    rw [zipD, List.length_cons, zipD_length xs ys]
    simp only [List.length_cons]
    omega
theorem zipD_get : ∀ (xs ys : List D) (i : Nat) (x y : D), xs[i]? = some x → ys[i]? = some y → (zipD xs ys)[i]? = some (.tup [x, y])
  | [], ys, i, x, y, h, _ => by simp at h
  | _ :: _, [], i, x, y, _, h => by simp at h
  | a :: xs, b :: ys, 0, x, y, h1, h2 => by
    simp at h1 h2
    subst h1 h2
    simp [zipD]
  | a :: xs, b :: ys, i + 1, x, y, h1, h2 => by
    rw [zipD, List.getElem?_cons_succ]
    exact zipD_get xs ys i x y (by simpa using h1) (by simpa using h2)
theorem enumD_length : ∀ (xs : List D) (k : Int), (enumD k xs).length = xs.length
  | [], _ => rfl
  | _ :: xs, k => by rw [enumD, List.length_cons, enumD_length xs (k + 1), List.length_cons]
theorem enumD_get : ∀ (xs : List D) (k : Int) (i : Nat) (x : D), xs[i]? = some x → (enumD k xs)[i]? = some (.tup [.int (k + i), x])
  | [], k, i, x, h => by simp at h
  | a :: xs, k, 0, x, h => by
    simp at h
    subst h
    simp [enumD]
  | a :: xs, k, i + 1, x, h => by
    rw [enumD, List.getElem?_cons_succ, enumD_get xs (k + 1) i x (by simpa using h)]
    congr 4
    omega
theorem repL_two {F : Hp} {d e : D} {x y : V} (h : Rep R F d x) (k : Rep R F e y) : RepL R F [d, e] [x, y] := ⟨x, [y], rfl, h, y, [], rfl, k, rfl⟩
theorem jok_zip {p q : SK} {xs ys : List V} {dx dy : List D} (hp : ∀ H', Le F H' → p.at R.K H' xs) (hq : ∀ H', Le F H' → q.at R.K H' ys) (rx : RepL R F dx xs) (ry : RepL R F dy ys) : JOk R (ItZ R.K p q) F (zipD dx dy) := fun i F' H' l l' hi => by
  have ax := hp H' (l.trans l')
  have ay := hq H' (l.trans l')
  have lx := rx.length
  have ly := ry.length
  rw [zipD_length] at hi ⊢
  by_cases e : i = min dx.length dy.length
  · exact .inl ⟨e, xs, ys, ax, ay, by omega, by omega, by omega⟩
  · have h1 : i < dx.length := by omega
    have h2 : i < dy.length := by omega
    obtain ⟨v, hv, rv⟩ := rx.get (List.getElem?_eq_getElem h1)
    obtain ⟨w, hw, rw'⟩ := ry.get (List.getElem?_eq_getElem h2)
    refine .inr ⟨_, zipD_get dx dy i _ _ (List.getElem?_eq_getElem h1) (List.getElem?_eq_getElem h2), ⟨xs, ys, v, w, ax, ay, hv, hw⟩, fun x H2 y => ?_⟩
    obtain ⟨t, x1, y1, rfl, hT, rfl, f1, f2⟩ := y
    have e1 := f1 xs ax
    have e2 := f2 ys ay
    rw [hv] at e1; cases e1
    rw [hw] at e2; cases e2
    exact ⟨upd F' t (.tup [v, w]), .newF l' hT, by unfold Rep; exact ⟨t, _, rfl, SqT.of upd_same, (repL_two (rv.mono l) (rw'.mono l)).mono (Le.upd (l'.none hT))⟩⟩
theorem jok_enum {p : SK} {xs : List V} {dx : List D} (hp : ∀ H', Le F H' → p.at R.K H' xs) (rx : RepL R F dx xs) : JOk R (ItE R.K p) F (enumD 0 dx) := fun i F' H' l l' hi => by
  have ax := hp H' (l.trans l')
  have lx := rx.length
  rw [enumD_length] at hi ⊢
  by_cases e : i = dx.length
  · exact .inl ⟨e, xs, ax, by omega⟩
  · have h1 : i < dx.length := by omega
    obtain ⟨v, hv, rv⟩ := rx.get (List.getElem?_eq_getElem h1)
    refine .inr ⟨_, enumD_get dx 0 i _ (List.getElem?_eq_getElem h1), ⟨xs, v, ax, hv⟩, fun x H2 y => ?_⟩
    obtain ⟨t, x1, rfl, hT, rfl, f1⟩ := y
    have e1 := f1 xs ax
    rw [hv] at e1; cases e1
    refine ⟨upd F' t (.tup [.int (i : Nat), v]), .newF l' hT, ?_⟩
    unfold Rep
    refine ⟨t, _, rfl, SqT.of upd_same, (repL_two ?_ (rv.mono l)).mono (Le.upd (l'.none hT))⟩
    show V.int (i : Nat) = V.int (0 + (i : Nat))
    rw [Int.zero_add]
end
section
variable {R : RCx} {T : Ck} {G : PK.Gl} {n : Nat} {C : Cx} {sc : Scope} {own : Str → Bool} {tg : Expr}
/-- a list, a tuple, a text that is walked -/
theorem pi_val (A : At R T G n C sc own) {x : X} {e : Expr} (h : PE C e (rF R G x)) : PI C tg e (rI R G x) := ⟨fun pins s σ H Rr I ⟨F, env, r, env', ds, S, e1, e2, q⟩ => by
  obtain ⟨d, fr⟩ := r
  cases d with
  | lst ys =>
    cases e2
    refine (pi_list h).run pins s σ H Rr I ⟨F, env, _, env', S, e1, fun z F' H' st rp => ?_⟩
    unfold Rep at rp
    obtain ⟨a, vs, rfl, ha, ra⟩ := rp
    exact ⟨a, rfl, ⟨vs, SqL.of (st.rep.le _ _ ha)⟩, q _ F' H' st (jok_list ha ra)⟩
  | tup ys =>
    cases e2
    refine (pi_tup h).run pins s σ H Rr I ⟨F, env, _, env', S, e1, fun z F' H' st rp => ?_⟩
    unfold Rep at rp
    obtain ⟨a, vs, rfl, ha, ra⟩ := rp
    refine ⟨a, rfl, ⟨vs, by rw [A.K]; exact st.rep.le.sqT ha⟩, q _ F' H' st ?_⟩
    rw [A.K]
    exact jok_tup ha ra
  | str t =>
    cases e2
    refine (pi_str h).run pins s σ H Rr I ⟨F, env, _, env', S, e1, fun z F' H' st rp => ?_⟩
    cases (show z = strV t from rp)
    exact ⟨_, rfl, q _ F' H' st jok_str⟩
  | _ => cases e2⟩
theorem rngOk_ok {i : Int} (h : rngOk i = true) : -(2 ^ 62) ≤ i ∧ i < 2 ^ 62 := by
  unfold rngOk at h
  simp only [Bool.and_eq_true, decide_eq_true_eq] at h
  omega
theorem pi_rng (A : At R T G n C sc own) {es : List X} {as : List Expr} {p pos : Pos} (hf : ("range" : Str) ∈ T.free) (hx : glbB sc ("range" : Str) = true) (hs : as.all notStar = true) (ha : PA C as (rXs R G es)) (hn : as.length = es.length) : PI C tg (.Call (.Name ("range" : Str) p) as [] pos) (rI R G (.rng es)) := ⟨fun pins s σ H Rr I ⟨F, env, r, env', ds, S, e1, e2, q⟩ => by
  obtain ⟨g1, _, _⟩ := A.gl hx
  have hm := A.free _ hf
  simp only [evX] at e1
  obtain ⟨⟨vs, e3⟩, h1, e⟩ := Res.bind_ok e1
  have len : ∀ {es : List X} {env : Env} {vs : List D} {e3 : Env}, evXs G es env = .ok (vs, e3) → vs.length = es.length := by
    intro es
    induction es with
    | nil => intro env vs e3 h; simp only [evXs] at h; cases h; rfl
    | cons x es ih =>
      intro env vs e3 h
      simp only [evXs] at h
      obtain ⟨a, _, h⟩ := Res.bind_ok h
      obtain ⟨b, h2, h⟩ := Res.bind_ok h
      cases h
      simp [ih h2]
  have hl := len h1
  match vs, e, h1, hl with
  | [.int k], e, h1, hl =>
    simp only at e
    split at e
    · rename_i hk
      cases e
      cases e2
      obtain ⟨a, rfl⟩ : ∃ a, as = [a] := by
        match as, hn with
        | [a], _ => exact ⟨a, rfl⟩
        | [], h => simp at h; simp at hl; omega
        | _ :: _ :: _, h => simp at h; simp at hl; omega
      rw [List.all_cons, Bool.and_eq_true] at hs
      refine (pi_range1 g1 hm ha (star_cons hs.1)).run pins s σ H Rr I ⟨F, env, _, _, S, h1, fun us F' H' st p => ?_⟩
      obtain ⟨v, vs', rfl, r1, r2⟩ := p
      cases (show vs' = [] from r2)
      cases (show v = .int k from r1)
      obtain ⟨k1, k2⟩ := rngOk_ok hk
      exact ⟨k, rfl, k1, k2, q _ F' H' st jok_range⟩
    · cases e
  | [.int k, .int j], e, h1, hl =>
    simp only at e
    split at e
    · rename_i hk
      cases e
      cases e2
      obtain ⟨a, b, rfl⟩ : ∃ a b, as = [a, b] := by
        match as, hn with
        | [a, b], _ => exact ⟨a, b, rfl⟩
        | [], h => simp at h; simp at hl; omega
        | [_], h => simp at h; simp at hl; omega
        | _ :: _ :: _ :: _, h => simp at h; simp at hl; omega
      rw [List.all_cons, List.all_cons, Bool.and_eq_true, Bool.and_eq_true] at hs
      refine (pi_range2 g1 hm ha (by rw [star_cons hs.1, star_cons hs.2.1]; rfl) (by rw [star_cons hs.2.1]; rfl)).run pins s σ H Rr I ⟨F, env, _, _, S, h1, fun us F' H' st p => ?_⟩
      obtain ⟨v, vs', rfl, r1, v2, vs2, rfl, r2, r3⟩ := p
      cases (show vs2 = [] from r3)
      cases (show v = .int k from r1)
      cases (show v2 = .int j from r2)
      obtain ⟨hk, hj⟩ := Bool.and_eq_true_iff.mp hk
      obtain ⟨k1, k2⟩ := rngOk_ok hk
      obtain ⟨j1, j2⟩ := rngOk_ok hj
      exact ⟨k, j, rfl, ⟨k1, k2, j1, j2⟩, q _ F' H' st jok_range⟩
    · cases e⟩
theorem isTup_ok {e : Expr} (h : isTupE e = true) : ∃ es k p, e = .Tuple es k p := by
  cases e <;> first | exact ⟨_, _, _, rfl⟩ | cases h
theorem pi_zipD (A : At R T G n C sc own) {a b : X} {l r : Expr} {p pos : Pos} (ht : isTupE tg = true) (hf : ("zip" : Str) ∈ T.free) (hx : glbB sc ("zip" : Str) = true) (hs1 : notStar l = true) (hs2 : notStar r = true) (ha : PE C l (rF R G a)) (hb : PE C r (rF R G b)) : PI C tg (.Call (.Name ("zip" : Str) p) [l, r] [] pos) (rI R G (.zip a b)) := by
  obtain ⟨g1, _, _⟩ := A.gl hx
  obtain ⟨es, k, pt, rfl⟩ := isTup_ok ht
  refine (pi_Z g1 (A.free _ hf) (pa_cons ha (pa_cons hb pa_nil (star_cons hs2)) (star_cons hs1)) (star_cons hs1) (star_plain (by rw [List.all_cons, hs2]; rfl))).imp fun σ H Rr ⟨F, env, r, env', ds, S, e1, e2, q⟩ => ?_
  simp only [evX] at e1
  obtain ⟨⟨x, e3⟩, h1, e⟩ := Res.bind_ok e1
  obtain ⟨⟨y, e4⟩, h2, e⟩ := Res.bind_ok e
  obtain ⟨xs, h3, e⟩ := Res.bind_ok e
  obtain ⟨ys, h4, e⟩ := Res.bind_ok e
  cases e
  cases e2
  refine ⟨F, env, x, e3, S, h1, fun z1 F1 H1 st1 p1 => ⟨F1, e3, y, _, st1.rep, h2, fun z2 F2 H2 st2 p2 => ?_⟩⟩
  obtain ⟨s1, vs1, rfl, a1, r1⟩ := sk_of st2.rep.le (p1.mono st2.fr.mono) h3
  obtain ⟨s2, vs2, rfl, a2, r2⟩ := sk_of st2.rep.le p2 h4
  refine ⟨s1, s2, vs1, vs2, rfl, by rw [A.K]; exact a1 _ st2.rep.le, by rw [A.K]; exact a2 _ st2.rep.le, q _ F2 H2 (st1.trans st2) ?_⟩
  rw [A.K]
  exact jok_zip a1 a2 r1 r2
theorem pi_enumD (A : At R T G n C sc own) {a : X} {l : Expr} {p pos : Pos} (ht : isTupE tg = true) (hf : ("enumerate" : Str) ∈ T.free) (hx : glbB sc ("enumerate" : Str) = true) (hs1 : notStar l = true) (ha : PE C l (rF R G a)) : PI C tg (.Call (.Name ("enumerate" : Str) p) [l] [] pos) (rI R G (.enum a)) := by
  obtain ⟨g1, _, _⟩ := A.gl hx
  obtain ⟨es, k, pt, rfl⟩ := isTup_ok ht
  refine (pi_E g1 (A.free _ hf) (pa_cons ha pa_nil (star_cons hs1)) (star_cons hs1)).imp fun σ H Rr ⟨F, env, r, env', ds, S, e1, e2, q⟩ => ?_
  simp only [evX] at e1
  obtain ⟨⟨x, e3⟩, h1, e⟩ := Res.bind_ok e1
  obtain ⟨xs, h3, e⟩ := Res.bind_ok e
  cases e
  cases e2
  refine ⟨F, env, x, _, S, h1, fun z1 F1 H1 st1 p1 => ?_⟩
  obtain ⟨s1, vs1, rfl, a1, r1⟩ := sk_of st1.rep.le p1 h3
  refine ⟨s1, vs1, rfl, by rw [A.K]; exact a1 _ st1.rep.le, q _ F1 H1 st1 ?_⟩
  rw [A.K]
  exact jok_enum a1 r1
end
end PK
end
section
set_option Elab.async false
set_option linter.all false
set_option maxRecDepth 100000
set_option maxHeartbeats 4000000
/-! PkSnd5: targets, comprehensions. -/
namespace PK
open PySem PySem.Spec PyProof.Rows L2
/-- the slots outside vs stay -/
def Ag (vs : List Nat) (σ σ' : L2.St) : Prop := σ'.length = σ.length ∧ ∀ j, j ∉ vs → σ'[j]? = σ[j]?
theorem Ag.refl {vs : List Nat} {σ : L2.St} : Ag vs σ σ := ⟨rfl, fun _ _ => rfl⟩
theorem Ag.trans {vs ws : List Nat} {σ σ1 σ2 : L2.St} (a : Ag vs σ σ1) (b : Ag ws σ1 σ2) : Ag (vs ++ ws) σ σ2 :=
  ⟨b.1.trans a.1, fun j h => by
    rw [List.mem_append, not_or] at h
    rw [b.2 j h.2, a.2 j h.1]⟩
theorem wipe_get {σ : L2.St} : ∀ {vs : List Nat} {j : Nat}, j ∉ vs → (wipe σ vs)[j]? = σ[j]?
  | [], _, _ => rfl
  | v :: vs, j, h => by
    rw [List.mem_cons, not_or] at h
    unfold wipe
    rw [List.getElem?_set]
    have : v ≠ j := fun e => h.1 e.symm
    simp [this]
    exact wipe_get h.2
theorem wipe_mem {σ : L2.St} : ∀ {vs : List Nat} {j : Nat}, j ∈ vs → j < σ.length → (wipe σ vs)[j]? = some none
  | v :: vs, j, h, hl => by
    unfold wipe
    rw [List.getElem?_set]
    by_cases e : v = j
    · subst e
      simp [wipe_length, hl]
    · simp [e]
      rcases List.mem_cons.mp h with h | h
      · exact absurd h.symm e
      · exact wipe_mem h hl
theorem wipe_ag {vs : List Nat} {σ σ' : L2.St} (a : Ag vs σ σ') : wipe σ' vs = wipe σ vs := by
  apply List.ext_getElem?
  intro j
  by_cases h : j ∈ vs
  · by_cases hl : j < σ.length
    · rw [wipe_mem h hl, wipe_mem h (by rw [a.1]; exact hl)]
    · rw [List.getElem?_eq_none (by rw [wipe_length, a.1]; omega), List.getElem?_eq_none (by rw [wipe_length]; omega)]
  · rw [wipe_get h, wipe_get h, a.2 j h]
theorem wipe_wipe {vs : List Nat} {σ : L2.St} : wipe (wipe σ vs) vs = wipe σ vs := wipe_ag ⟨wipe_length _ _, fun _ h => wipe_get h⟩
theorem wipeE_at {env : Env} : ∀ {vs : List Nat} {j : Nat} {y : Ow × D}, at_ (wipeE env vs) j = some y → j ∉ vs ∧ at_ env j = some y
  | [], _, _, h => ⟨by simp, h⟩
  | v :: vs, j, y, h => by
    unfold wipeE at h
    rcases at_put h with ⟨_, z⟩ | ⟨h1, h2⟩
    · cases z
    · obtain ⟨a, b⟩ := wipeE_at h2
      exact ⟨by rw [List.mem_cons, not_or]; exact ⟨fun e => h1 e.symm, a⟩, b⟩
theorem wipeE_length {env : Env} : ∀ {vs : List Nat}, (wipeE env vs).length = env.length
  | [] => rfl
  | v :: vs => by unfold wipeE; rw [put_length, wipeE_length]
theorem backE_length {e0 env : Env} : ∀ {vs : List Nat}, (backE e0 env vs).length = env.length
  | [] => rfl
  | v :: vs => by unfold backE; rw [put_length, backE_length]
theorem backE_at {e0 env : Env} : ∀ {vs : List Nat} {j : Nat} {y : Ow × D}, at_ (backE e0 env vs) j = some y → (j ∈ vs ∧ at_ e0 j = some y) ∨ (j ∉ vs ∧ at_ env j = some y)
  | [], _, _, h => .inr ⟨by simp, h⟩
  | v :: vs, j, y, h => by
    unfold backE at h
    rcases at_put h with ⟨h1, z⟩ | ⟨h1, h2⟩
    · subst h1; exact .inl ⟨List.mem_cons_self .., z⟩
    · rcases backE_at h2 with ⟨a, b⟩ | ⟨a, b⟩
      · exact .inl ⟨List.mem_cons_of_mem _ a, b⟩
      · exact .inr ⟨by rw [List.mem_cons, not_or]; exact ⟨fun e => h1 e.symm, a⟩, b⟩
/-- a target that takes a frozen datum -/
def gA (R : RCx) (t : Tg) : TG := fun v σ H Q => ∃ F env d env', SRep R F H σ env ∧ Rep R F d v ∧ asg t d false env = .ok env' ∧ ∀ σ', Stp R F H σ env F H σ' env' → Ag t.slots σ σ' → (∀ j k d, at_ env' j = some (k, d) → k ≠ .f → at_ env j = some (k, d) ∧ σ'[j]? = σ[j]?) → Q σ' H
def gAs (R : RCx) (ts : List Tg) : TGs := fun vs σ H Q => ∃ F env ds env', SRep R F H σ env ∧ RepL R F ds vs ∧ asgL ts ds env = .ok env' ∧ ∀ σ', Stp R F H σ env F H σ' env' → Ag (slotsL ts) σ σ' → (∀ j k d, at_ env' j = some (k, d) → k ≠ .f → at_ env j = some (k, d) ∧ σ'[j]? = σ[j]?) → Q σ' H
section
variable {R : RCx} {T : Ck} {G : PK.Gl} {n : Nat} {C : Cx} {sc : Scope} {own : Str → Bool}
theorem each_len {env : PySem.Env} : ∀ {es : List Expr}, es.all notStar = true → (assignEach es env).length = es.length ∧ (assignEach es env).findIdx? (·.1) = none
  | [], _ => ⟨rfl, rfl⟩
  | e :: es, h => by
    rw [List.all_cons, Bool.and_eq_true] at h
    obtain ⟨a, b⟩ := each_len (env := env) h.2
    have e1 : assignEach (e :: es) env = (false, assign e env) :: assignEach es env := by
      obtain ⟨h1, _⟩ := h
      cases e <;> first | rfl | cases h1
    rw [e1]
    exact ⟨by simp [a], by rw [List.findIdx?_cons]; simp [b]⟩
theorem each_cons {e : Expr} {es : List Expr} {env : PySem.Env} (h : notStar e = true) : (assignEach (e :: es) env).map (·.2) = assign e env :: (assignEach es env).map (·.2) := by
  cases e <;> first | rfl | cases h
mutual
theorem pG (A : At R T G n C sc own) : ∀ (t : Tg) (e : Expr), ckG T sc own t e = true → PG C e (gA R t)
  | .nm i, e, h => by
    unfold ckG at h
    split at h
    · obtain ⟨h1, h2⟩ := Bool.and_eq_true_iff.mp h
      obtain ⟨l1, l2⟩ := A.loc h2
      refine (pg_name A.nd (by rw [A.N]; exact of_decide_eq_true h1) l1 l2).imp fun v σ H Q ⟨F, env, d, env', S, rv, e, q⟩ => ?_
      simp only [asg] at e
      cases e
      refine q _ (.put (.refl S) (.inl ⟨rfl, rv⟩)) ⟨by rw [List.length_set], fun j hj => ?_⟩ fun j k d' hat hk => ?_
      · have : i ≠ j := fun e => hj (by simp [Tg.slots, e])
        rw [List.getElem?_set]; simp [this]
      · rcases at_put hat with ⟨_, z⟩ | ⟨h1, h2⟩
        · cases z; exact absurd rfl hk
        · exact ⟨h2, by rw [List.getElem?_set]; simp [h1]⟩
    · cases h
  | .tp ts, e, h => by
    unfold ckG at h
    split at h
    · rename_i es k pos
      simp only [Bool.and_eq_true, decide_eq_true_eq] at h
      obtain ⟨⟨h1, h2⟩, h3⟩ := h
      obtain ⟨a, b⟩ := each_len (env := C.env) h1
      refine (pg_tup A.calm (pGs A ts es h1 h3) rfl b).imp fun v σ H Q ⟨F, env, d, env', S, rv, e, q⟩ => ?_
      simp only [asg] at e
      split at e
      · rename_i ds
        unfold Rep at rv
        obtain ⟨ad, vs, rfl, hs, rl⟩ := rv
        have hl : ∀ {ts : List Tg} {ds : List D} {env env' : Env}, asgL ts ds env = .ok env' → ds.length = ts.length := by
          intro ts
          induction ts with
          | nil => intro ds env env' h; cases ds <;> first | rfl | (simp [asgL] at h)
          | cons t ts ih =>
            intro ds env env' h
            cases ds with
            | nil => simp [asgL] at h
            | cons d ds =>
              simp only [asgL] at h
              obtain ⟨_, _, h⟩ := Res.bind_ok h
              simp [ih h]
        refine ⟨ad, vs, rfl, by rw [A.K]; exact S.le.sqT hs, by rw [rl.length, hl e, a, h2], F, env, ds, env', S, rl, e, fun σ' st ag hh => q σ' st ag hh⟩
      · cases e
    · cases h
theorem pGs (A : At R T G n C sc own) : ∀ (ts : List Tg) (es : List Expr), es.all notStar = true → ckGs T sc own ts es = true → PGs C es (gAs R ts)
  | [], es, hs, h => by
    rw [ckGs] at h
    cases es with
    | nil =>
      refine pgs_nil.imp fun vs σ H Q ⟨F, env, ds, env', S, rl, e, q⟩ => ?_
      cases ds with
      | nil =>
        simp only [asgL] at e
        cases e
        exact ⟨rl, q σ (.refl S) .refl fun j k d h _ => ⟨h, rfl⟩⟩
      | cons d ds => simp [asgL] at e
    | cons _ _ => cases h
  | t :: ts, es, hs, h => by
    cases es with
    | nil => rw [ckGs] at h; cases h
    | cons e es =>
      rw [ckGs] at h
      obtain ⟨h1, h2⟩ := Bool.and_eq_true_iff.mp h
      rw [List.all_cons, Bool.and_eq_true] at hs
      refine (pgs_cons (pG A t e h1) (pGs A ts es hs.2 h2) (each_cons hs.1)).imp fun vs σ H Q ⟨F, env, ds, env', S, rl, e, q⟩ => ?_
      cases ds with
      | nil => simp [asgL] at e
      | cons d ds =>
        simp only [asgL] at e
        obtain ⟨e1, h3, e⟩ := Res.bind_ok e
        obtain ⟨v, vs', rfl, r1, r2⟩ := rl
        refine ⟨v, vs', rfl, F, env, d, e1, S, r1, h3, fun σ1 st1 ag1 hh1 => ⟨F, e1, ds, env', st1.rep, r2, e, fun σ2 st2 ag2 hh2 => ?_⟩⟩
        refine q σ2 (st1.trans st2) (ag1.trans ag2) fun j k d' hat hk => ?_
        obtain ⟨a, b⟩ := hh2 j k d' hat hk
        obtain ⟨a', b'⟩ := hh1 j k d' a hk
        exact ⟨a', b.trans b'⟩
end
/-- the block's own names forgotten -/
theorem SRep.wipe {F H : Hp} {σ : L2.St} {env : Env} {vs : List Nat} (S : SRep R F H σ env) : SRep R F H (L2.wipe σ vs) (wipeE env vs) where
  le := S.le
  len := by rw [wipeE_length, wipe_length]; exact S.len
  get := fun i k d e => by
    obtain ⟨a, b⟩ := wipeE_at e
    obtain ⟨v, hv, hs⟩ := S.get i k d b
    exact ⟨v, by rw [wipe_get a]; exact hv, hs⟩
  inj := fun i j k l d e a q1 n1 q2 n2 s1 s2 => by
    obtain ⟨a1, b1⟩ := wipeE_at q1
    obtain ⟨a2, b2⟩ := wipeE_at q2
    rw [wipe_get a1] at s1
    rw [wipe_get a2] at s2
    exact S.inj i j k l d e a b1 n1 b2 n2 s1 s2
theorem own_wipe {σ : L2.St} {env : Env} {vs : List Nat} {a : Addr} (h : Own (L2.wipe σ vs) (wipeE env vs) a) : Own σ env a := by
  obtain ⟨i, k, d, e, hk, hs⟩ := h
  obtain ⟨a1, b1⟩ := wipeE_at e
  rw [wipe_get a1] at hs
  exact ⟨i, k, d, b1, hk, hs⟩
/-- an object of nobody's is written -/
theorem StpE.poke {F H F' H' : Hp} {σ : L2.St} {env env' : Env} {p : Addr} {o : HO} (s : StpE R F H σ env F' H' env') (S : SRep R F H σ env) (h : H p = none) (h' : F' p = none) : StpE R F H σ env F' (upd H' p o) env' := by
  have ne : ∀ a u, H a = some u → a ≠ p := fun a u e z => by subst z; rw [h] at e; cases e
  have neF : ∀ a u, F' a = some u → a ≠ p := fun a u e z => by subst z; rw [h'] at e; cases e
  have neO : ∀ a, Own σ env' a → a ≠ p := fun a ha z => by
    subst z
    obtain ⟨_, u, e⟩ := own_live S (s.ownSub ha)
    rw [h] at e; cases e
  refine ⟨⟨fun a u e => by rw [upd_ne (neF a u e)]; exact s.rep.le a u e, s.rep.len, fun i k d e => ?_, s.rep.inj⟩, ⟨s.fr.mono, fun a u e n => by rw [upd_ne (ne a u e)]; exact s.fr.keep a u e n, s.fr.new, s.fr.own, fun a u e => ?_⟩, s.sub⟩
  · obtain ⟨v, hv, hs⟩ := s.rep.get i k d e
    refine ⟨v, hv, ?_⟩
    cases k with
    | f => exact hs
    | o =>
      obtain ⟨a, u, rfl, h1, h2, h3⟩ := hs
      exact ⟨a, u, rfl, h1, by rw [upd_ne (neO a ⟨i, _, d, e, by decide, hv⟩)]; exact h2, h3⟩
    | io =>
      obtain ⟨a, u, rfl, h1, h2, h3⟩ := hs
      exact ⟨a, u, rfl, h1, by rw [upd_ne (neO a ⟨i, _, d, e, by decide, hv⟩)]; exact h2, h3⟩
  · obtain ⟨u', e'⟩ := s.fr.live a u e
    exact ⟨u', by rw [upd_ne (ne a u e)]; exact e'⟩
/-- nobody's object stays through a step -/
theorem StpE.nobody {F H F' H' : Hp} {σ : L2.St} {env env' : Env} {p : Addr} {o : HO} (s : StpE R F H σ env F' H' env') (h : F p = none) (h2 : H p = some o) (h3 : ¬ Own σ env p) : F' p = none ∧ H' p = some o := by
  refine ⟨?_, s.fr.keep p o h2 h3⟩
  cases q : F' p with
  | none => rfl
  | some u =>
    rcases s.fr.new p u q with z | z | z
    · rw [h] at z; cases z
    · rw [h2] at z; cases z
    · exact absurd z h3
/-- back in the def's names -/
theorem StpE.unwipe {F H F' H' : Hp} {σ : L2.St} {env env' : Env} {vs : List Nat} (S : SRep R F H σ env) (s : StpE R F H (L2.wipe σ vs) (wipeE env vs) F' H' env') : StpE R F H σ env F' H' (backE env env' vs) := by
  have out : ∀ {j k d}, j ∉ vs → at_ env' j = some (k, d) → k ≠ .f → ∃ d0, at_ env j = some (k, d0) := fun {j k d} _ e hk => by
    obtain ⟨d0, e0⟩ := s.sub j k d e hk
    exact ⟨d0, (wipeE_at e0).2⟩
  have inn : ∀ {j k d}, at_ (backE env env' vs) j = some (k, d) → k ≠ .f → ∃ d0, at_ env j = some (k, d0) := fun {j k d} e hk => by
    rcases backE_at e with ⟨_, b⟩ | ⟨a, b⟩
    · exact ⟨d, b⟩
    · exact out a b hk
  refine ⟨⟨s.rep.le, ?_, fun i k d e => ?_, fun i j k l d e a q1 n1 q2 n2 s1 s2 => ?_⟩, ⟨s.fr.mono, fun a o e n => s.fr.keep a o e fun z => n (own_wipe z), fun a o e => ?_, fun a h => .inl ?_, s.fr.live⟩, fun i k d e hk => inn e hk⟩
  · rw [backE_length]
    have := s.rep.len
    rw [wipe_length] at this
    exact this
  · rcases backE_at e with ⟨a, b⟩ | ⟨a, b⟩
    · obtain ⟨v, hv, hs⟩ := S.get i k d b
      refine ⟨v, hv, ?_⟩
      have st : ∀ {p : Addr} {o : HO}, k ≠ .f → v = .ref p → F p = none → H p = some o → F' p = none ∧ H' p = some o := fun {p o} hk ev hf hh => by
        refine s.nobody hf hh fun z => ?_
        obtain ⟨j, l, d', q, hl, hs'⟩ := z
        obtain ⟨a2, b2⟩ := wipeE_at q
        rw [wipe_get a2] at hs'
        subst ev
        have := S.inj i j k l d d' p b hk b2 hl hv hs'
        subst this
        exact a2 a
      cases k with
      | f => exact Rep.mono s.fr.mono hs
      | o =>
        obtain ⟨p, o, e1, e2, e3, e4⟩ := hs
        obtain ⟨x, y⟩ := st (by decide) e1 e2 e3
        exact ⟨p, o, e1, x, y, e4.mono s.fr.mono⟩
      | io =>
        obtain ⟨p, o, e1, e2, e3, e4⟩ := hs
        obtain ⟨x, y⟩ := st (by decide) e1 e2 e3
        exact ⟨p, o, e1, x, y, e4.mono s.fr.mono⟩
    · obtain ⟨v, hv, hs⟩ := s.rep.get i k d b
      rw [wipe_get a] at hv
      exact ⟨v, hv, hs⟩
  · obtain ⟨d1, q1⟩ := inn q1 n1
    obtain ⟨d2, q2⟩ := inn q2 n2
    exact S.inj i j k l d1 d2 a q1 n1 q2 n2 s1 s2
  · rcases s.fr.new a o e with z | z | z
    · exact .inl z
    · exact .inr (.inl z)
    · exact .inr (.inr (own_wipe z))
  · obtain ⟨i, k, d, e, hk, hs⟩ := h
    obtain ⟨d0, e0⟩ := inn e hk
    exact ⟨i, k, d0, e0, hk, hs⟩
end
end PK
end
section
set_option Elab.async false
set_option linter.all false
set_option maxRecDepth 100000
set_option maxHeartbeats 4000000
/-! PkSnd6: comprehensions; all expressions. -/
namespace PK
open PySem PySem.Spec PyProof.Rows L2
theorem noEx_ok {α : Type} {x : Res α} {a : α} (h : noEx x = .ok a) : x = .ok a := by
  cases x <;> first | (cases h; rfl) | cases h
theorem ownOf_slots (N : List Str) (vs : List Nat) : (ownOf N vs).map (·.2) = vs := by
  unfold ownOf
  rw [List.map_map]
  exact List.map_id _
section
variable {R : RCx} {T : Ck} {G : PK.Gl} {n : Nat} {C : Cx} {sc : Scope} {own : Str → Bool}
theorem turn_end {F1 H1 F2 H2 F4 H4 : Hp} {σb σ2 : L2.St} {eb envb env2 env4 : Env} {vs : List Nat} (st : StpE R F1 H1 σb eb F2 H2 envb) (hh : ∀ j k d, at_ env2 j = some (k, d) → k ≠ .f → at_ envb j = some (k, d) ∧ σ2[j]? = σb[j]?) (st' : StpE R F2 H2 σ2 env2 F4 H4 env4) (w : wipe σ2 vs = σb) :
    StpE R F1 H1 σb eb F4 H4 (wipeE env4 vs) := by
  have rp : SRep R F4 H4 σb (wipeE env4 vs) := by rw [← w]; exact st'.rep.wipe
  have f1 : Fr (Own σb envb) (Own σ2 env2) F2 H2 F2 H2 := .refl fun a ⟨j, k, d, e, hk, hs⟩ => by
    obtain ⟨x, y⟩ := hh j k d e hk
    exact ⟨j, k, d, x, hk, by rw [← y]; exact hs⟩
  have f2 : Fr (Own σ2 env4) (Own σb (wipeE env4 vs)) F4 H4 F4 H4 := .refl fun a h => by
    rw [← w] at h
    exact own_wipe h
  refine ⟨rp, ((st.fr.trans f1).trans st'.fr).trans f2, fun j k d e hk => ?_⟩
  obtain ⟨_, e⟩ := wipeE_at e
  obtain ⟨d1, e⟩ := st'.sub j k d e hk
  obtain ⟨e, _⟩ := hh j k d1 e hk
  exact st.sub j k d1 e hk
theorem lc_go {t : Tg} {it elt : X} {ifs : List X} : ∀ σ H Q, rE R G (.comp t it ifs elt) σ H Q → tLc (rI R G it) (gA R t) (rTs R G ifs) (rF R G elt) t.slots σ H Q := fun σ H Q ⟨F, env, rr, env', S, e, q⟩ => by
  simp only [evX] at e
  obtain ⟨⟨r0, e1⟩, h1, e⟩ := Res.bind_ok e
  obtain ⟨ds, h2, e⟩ := Res.bind_ok e
  obtain ⟨⟨out, qe⟩, h3, e⟩ := Res.bind_ok e
  split at e
  · rename_i hlen
    cases e
    have h3 := noEx_ok h3
    refine ⟨F, env, r0, e1, ds, S, h1, h2, fun J F1 H1 st1 jok D hD => ?_⟩
    have Sb := st1.rep.wipe (vs := t.slots)
    have fD : F1 D = none := st1.rep.le.none hD
    have nD : ¬ Own (wipe σ t.slots) (wipeE e1 t.slots) D := fun z => by
      obtain ⟨_, o, e⟩ := own_live Sb z
      rw [hD] at e; cases e
    refine ⟨fun i m H' => ∃ F' envb acc accd rest, StpE R F1 H1 (wipe σ t.slots) (wipeE e1 t.slots) F' H' envb ∧ m = ds.length - i ∧ i ≤ ds.length ∧ H' D = some (.lst acc) ∧ F' D = none ∧ RepL R F' accd acc ∧
      compL t.slots (fun d e => asg t d false e) (fun e => evTs G ifs e) (fun e' => evX G elt e') (ds.drop i) envb = .ok (rest, qe) ∧ accd ++ rest = out,
      ⟨ds.length, F1, _, [], [], out, (StpE.refl Sb).poke Sb hD fD, by omega, Nat.zero_le _, upd_same, fD, rfl, by simpa using h3, rfl⟩, ?_⟩
    rintro i m H' ⟨F', envb, acc, accd, rest, st, rfl, hi, hDa, fD', rl, hc, ho⟩
    rcases jok i F' H' st.fr.mono st.rep.le hi with ⟨ei, stop⟩ | ⟨d, hd, go, yl⟩
    · refine .inl ⟨stop, ?_⟩
      subst ei
      rw [List.drop_length] at hc
      simp only [compL] at hc
      cases hc
      rw [List.append_nil] at ho
      subst ho
      exact q (.ref D) F' H' (st1.trans (.unwipe st1.rep st)) ⟨D, _, rfl, fD', hDa, ⟨acc, rfl, rl⟩, none_of_live (st1.fr.live D) hD⟩
    · have hlt : i < ds.length := (List.getElem?_eq_some_iff.mp hd).1
      have hdrop : ds.drop i = d :: ds.drop (i + 1) := by
        rw [List.drop_eq_getElem_cons hlt]
        rw [List.getElem?_eq_getElem hlt] at hd
        cases hd
        rfl
      rw [hdrop] at hc
      simp only [compL] at hc
      obtain ⟨env2, hft, hc⟩ := Res.bind_ok hc
      obtain ⟨⟨b, env3⟩, hts, hc⟩ := Res.bind_ok hc
      refine .inr ⟨go, fun H'' => ∃ F' envb acc accd rest, StpE R F1 H1 (wipe σ t.slots) (wipeE e1 t.slots) F' H'' envb ∧ H'' D = some (.lst acc) ∧ F' D = none ∧ RepL R F' accd acc ∧
        compL t.slots (fun d e => asg t d false e) (fun e => evTs G ifs e) (fun e' => evX G elt e') (ds.drop (i + 1)) envb = .ok (rest, qe) ∧ accd ++ rest = out,
        fun H'' ⟨F', envb, acc, accd, rest, a1, a2, a3, a4, a5, a6⟩ => ⟨ds.length - (i + 1), by omega, F', envb, acc, accd, rest, a1, rfl, hlt, a2, a3, a4, a5, a6⟩, fun x H2 y => ?_⟩
      obtain ⟨F2, ps, rx⟩ := yl x H2 y
      have st2 := st.trans (.pst st.rep ps)
      have D2 : F2 D = none ∧ H2 D = some (.lst acc) := by
        refine ⟨?_, ps.keep _ _ hDa⟩
        cases z : F2 D with
        | none => rfl
        | some u =>
          rcases ps.new D u z with w | w
          · rw [fD'] at w; cases w
          · rw [hDa] at w; cases w
      refine ⟨F2, envb, d, env2, st2.rep, rx, hft, fun σ2 sg ag hh => ?_⟩
      have w : wipe σ2 t.slots = wipe σ t.slots := (wipe_ag ag).trans wipe_wipe
      have n2 : ¬ Own σ2 env2 D := fun ⟨j, k, d', e, hk, hs⟩ => by
        obtain ⟨x1, y1⟩ := hh j k d' e hk
        exact nD (st2.ownSub ⟨j, k, d', x1, hk, by rw [← y1]; exact hs⟩)
      refine ⟨w, F2, env2, b, env3, sg.rep, hts, fun F3 H3 st3 => ?_⟩
      obtain ⟨f3, h3'⟩ := st3.nobody D2.1 D2.2 n2
      cases b with
      | false =>
        rw [if_neg Bool.false_ne_true]
        exact ⟨F3, _, acc, accd, rest, turn_end st2 hh st3 w, h3', f3, rl.mono (ps.mono.trans st3.fr.mono), hc, ho⟩
      | true =>
        rw [if_pos rfl]
        obtain ⟨⟨re, env4⟩, hel, hc⟩ := Res.bind_ok hc
        obtain ⟨⟨rest', qe'⟩, hrec, hc⟩ := Res.bind_ok hc
        cases hc
        refine ⟨F3, env3, re, env4, st3.rep, hel, fun z F4 H4 st4 rz => ?_⟩
        have st34 := st3.trans st4
        obtain ⟨f4, h4'⟩ := st34.nobody D2.1 D2.2 n2
        have hl := rl.length
        have hle : accd.length < line := by
          have : out.length ≤ line := hlen
          rw [← ho, List.length_append, List.length_cons] at this
          omega
        refine ⟨acc, h4', by rw [hl, ← line_eq]; exact hle, F4, _, acc ++ [z], accd ++ [re.1], rest', (turn_end st2 hh st34 w).poke Sb hD f4, upd_same, f4, (rl.mono (ps.mono.trans st34.fr.mono)).append ⟨z, [], rfl, rz, rfl⟩, hrec, ?_⟩
        rw [List.append_assoc]
        exact ho
  · cases e
theorem p_comp (A : At R T G n C sc own) {t : Tg} {it elt : X} {ifs : List X} {el tg ie : Expr} {ifE : List Expr} {scope : Scope} {pos : Pos} (hb : blkC T.N sc scope (ownOf T.N t.slots) = true) (hg : ckG T (relS scope sc) (ownB scope) t tg = true) (hs : notSet ie = true) (hi : PI C tg ie (rI R G it))
    (ht : ∀ {C' : Cx}, At R T G n C' (relS scope sc) (ownB scope) → PTs C' ifE (rTs R G ifs)) (he : ∀ {C' : Cx}, At R T G n C' (relS scope sc) (ownB scope) → PE C' el (rF R G elt)) : PE C (.ListComp el [⟨tg, ie, ifE, 0⟩] scope pos) (rE R G (.comp t it ifs elt)) := by
  have ok : BlkOk C.N C.env.scope scope (ownOf T.N t.slots) := by
    rw [A.N, A.sc]
    exact blkOk_by hb
  refine (pe_lc A.calm A.nd hi ok (fun s H a cl fp => pG (A.blk s H a cl fp) t tg hg) (fun s H a cl fp => ht (A.blk s H a cl fp)) (fun s H a cl fp => he (A.blk s H a cl fp)) (folded_not hs)).imp ?_
  rw [ownOf_slots]
  exact lc_go
theorem pts_nil' : PTs C [] (rTs R G []) := pts_nil.imp fun σ H Q ⟨F, env, b, env', S, e, q⟩ => by
  simp only [evTs] at e
  cases e
  exact q F H (.refl S)
theorem pts_one' {x : X} {e : Expr} (h : PT C e (rT R G x)) : PTs C [e] (rTs R G [x]) := (pts_one h).imp fun σ H Q ⟨F, env, b, env', S, e, q⟩ => by
  simp only [evTs] at e
  obtain ⟨⟨r, e1⟩, h1, e⟩ := Res.bind_ok e
  obtain ⟨k, h2, e⟩ := Res.bind_ok e
  cases k with
  | true => cases e; exact ⟨F, env, r, _, true, S, h1, h2, q⟩
  | false => cases e; exact ⟨F, env, r, _, false, S, h1, h2, q⟩
end
end PK
end
section
set_option Elab.async false
set_option linter.all false
set_option maxRecDepth 100000
set_option maxHeartbeats 4000000
/-! PkSnd7: every expression that the checker passes. -/
namespace PK
open PySem PySem.Spec PyProof.Rows L2
section
variable {R : RCx} {T : Ck} {G : PK.Gl} {n : Nat}
theorem and2 {a b : Bool} (h : (a && b) = true) : a = true ∧ b = true := Bool.and_eq_true_iff.mp h
theorem plain_of {C : Cx} {x : X} {e : Expr} (h : plainT e = true) (p : PE C e (rE R G x)) : PE C e (rE R G x) ∧ PT C e (rT R G x) := ⟨p, pt_plain h p⟩
theorem plain_v {T : Ck} {sc : Scope} {i : Nat} {e : Expr} (h : ckV T sc i e = true) : plainT e = true := by
  unfold ckV at h
  split at h
  · rfl
  · cases h
theorem plain_c {T : Ck} {sc : Scope} {d : D} {e : Expr} (h : ckC T sc d e = true) : plainT e = true := by
  unfold ckC at h
  split at h <;> first | rfl | cases h
def GoX (R : RCx) (T : Ck) (G : PK.Gl) (n : Nat) (x : X) : Prop := ∀ {C : Cx} {sc : Scope} {own : Str → Bool} {e : Expr} (A : At R T G n C sc own) (h : ckX T x sc own e = true), PE C e (rE R G x) ∧ PT C e (rT R G x)
def GoXs (R : RCx) (T : Ck) (G : PK.Gl) (n : Nat) (xs : List X) : Prop := ∀ {C : Cx} {sc : Scope} {own : Str → Bool} {es : List Expr} (A : At R T G n C sc own) (h : ckXs T xs sc own es = true) (hs : es.all notStar = true), PA C es (rXs R G xs) ∧ PA C es (rOs R G xs)
theorem ckXs_len {sc : Scope} {own : Str → Bool} : ∀ {xs : List X} {es : List Expr}, ckXs T xs sc own es = true → es.length = xs.length
  | [], [], _ => rfl
  | [], _ :: _, h => by unfold ckXs at h; cases h
  | _ :: _, [], h => by unfold ckXs at h; cases h
  | x :: xs, e :: es, h => by
    unfold ckXs at h
    simp [ckXs_len (and2 h).2]
theorem pX_step (hio : ∀ f, T.io f = G.io f) (N : Nat) (ih : ∀ x : X, sizeOf x < N → GoX R T G n x) (ihs : ∀ xs : List X, sizeOf xs < N → GoXs R T G n xs) (x : X) (hN : sizeOf x < N + 1) : GoX R T G n x := by
  intro C sc own e A h
  revert h hN
  match x with
  | .v i =>
    intro hN h
    unfold ckX at h
    exact plain_of (plain_v h) (p_v A h)
  | .c d =>
    intro hN h
    unfold ckX at h
    exact plain_of (plain_c h) (p_c A h)
  | .bin o a b =>
    intro hN h
    unfold ckX at h
    split at h
    · obtain ⟨h, h3⟩ := and2 h
      obtain ⟨h1, h2⟩ := and2 h
      cases bop_ok h1
      exact plain_of rfl (p_bin A (p_opd A h2 (ih a (by simp at hN; omega) A h2).1) (p_opd A h3 (ih b (by simp at hN; omega) A h3).1))
    · cases h
  | .neg a =>
    intro hN h
    unfold ckX at h
    split at h
    · exact plain_of rfl (p_neg (ih a (by simp at hN; omega) A h).1)
    · cases h
  | .not a =>
    intro hN h
    unfold ckX at h
    split at h
    · exact ⟨p_not (ih a (by simp at hN; omega) A h).1, pt_not' (ih a (by simp at hN; omega) A h).2⟩
    · cases h
  | .and a b =>
    intro hN h
    unfold ckX at h
    split at h
    · rename_i l r rest pos
      obtain ⟨h1, h2⟩ := and2 h
      have pa := ih a (by simp at hN; omega) A h1
      cases rest with
      | nil =>
        have pb := ih b (by simp at hN; omega) A h2
        exact ⟨p_and pa.1 (pe_one pb.1), pt_and' pa.2 (pw_and1 pb.2)⟩
      | cons r2 rest =>
        obtain ⟨h2, h3⟩ := and2 h2
        have pb := ih b (by simp at hN; omega) A h3
        exact ⟨p_and pa.1 pb.1, pt_and' pa.2 pb.2.ofBool⟩
    · cases h
  | .or a b =>
    intro hN h
    unfold ckX at h
    split at h
    · rename_i l r rest pos
      obtain ⟨h1, h2⟩ := and2 h
      have pa := ih a (by simp at hN; omega) A h1
      cases rest with
      | nil =>
        have pb := ih b (by simp at hN; omega) A h2
        exact ⟨p_or pa.1 (pe_one pb.1), pt_or' pa.2 (pw_or1 pb.2)⟩
      | cons r2 rest =>
        obtain ⟨h2, h3⟩ := and2 h2
        have pb := ih b (by simp at hN; omega) A h3
        exact ⟨p_or pa.1 pb.1, pt_or' pa.2 pb.2.ofBool⟩
    · cases h
  | .cmp o a b =>
    intro hN h
    unfold ckX at h
    split at h
    · obtain ⟨h, h4⟩ := and2 h
      obtain ⟨h, h3⟩ := and2 h
      obtain ⟨h1, h2⟩ := and2 h
      cases cop_ok h1
      have pa := p_opd A h3 (ih a (by simp at hN; omega) A h3).1
      have pb := p_opd A h4 (ih b (by simp at hN; omega) A h4).1
      exact ⟨p_cmp A h2 pa pb, pt_cmp' A h2 pa pb⟩
    · cases h
  | .chain o p a b c =>
    intro hN h
    unfold ckX at h
    split at h
    · obtain ⟨h, h6⟩ := and2 h
      obtain ⟨h, h5⟩ := and2 h
      obtain ⟨h, h4⟩ := and2 h
      obtain ⟨h, h3⟩ := and2 h
      obtain ⟨h1, h2⟩ := and2 h
      cases cop_ok h1
      cases cop_ok h2
      have pa := (ih a (by simp at hN; omega) A h4).1.toF
      have pb := (ih b (by simp at hN; omega) A h5).1.toF
      have pc := (ih c (by simp at hN; omega) A h6).1.toF
      exact ⟨p_chain A h3 pa pb pc, pt_chain' A h3 pa pb pc⟩
    · cases h
  | .ite c a b =>
    intro hN h
    unfold ckX at h
    split at h
    · obtain ⟨h, h3⟩ := and2 h
      obtain ⟨h1, h2⟩ := and2 h
      have pc := ih c (by simp at hN; omega) A h1
      have pa := ih a (by simp at hN; omega) A h2
      have pb := ih b (by simp at hN; omega) A h3
      exact ⟨p_ite pc.2 pa.1 pb.1, pt_ite' pc.2 pa.2 pb.2⟩
    · cases h
  | .tup es =>
    intro hN h
    unfold ckX at h
    split at h
    · obtain ⟨h1, h2⟩ := and2 h
      exact plain_of rfl (p_tup (ihs es (by simp at hN; omega) A h2 h1).1)
    · cases h
  | .lst es =>
    intro hN h
    unfold ckX at h
    split at h
    · obtain ⟨h1, h2⟩ := and2 h
      exact plain_of rfl (p_lst (ihs es (by simp at hN; omega) A h2 h1).1)
    · cases h
  | .ix a b =>
    intro hN h
    unfold ckX at h
    split at h
    · obtain ⟨h, h3⟩ := and2 h
      obtain ⟨h1, h2⟩ := and2 h
      exact plain_of rfl (p_ix A h1 (p_opd A h2 (ih a (by simp at hN; omega) A h2).1) (p_opd A h3 (ih b (by simp at hN; omega) A h3).1))
    · cases h
  | .sl a lo hi =>
    intro hN h
    unfold ckX at h
    split at h
    · rename_i l x y p2 pos
      obtain ⟨h, h3⟩ := and2 h
      obtain ⟨h1, h2⟩ := and2 h
      have no : ∀ {z : X} {w : Expr}, ckX T z sc own w = true → isNo z = false := fun {z w} k => by
        cases z <;> first | rfl | (unfold ckX at k; cases k)
      have pl : PO C x (rP R G lo) := by
        cases x with
        | none =>
          cases lo with
          | no => exact po_no
          | _ => cases h2
        | some x => exact po_x (ih lo (by simp at hN; omega) A h2).1 (no h2)
      have ph : PO C y (rP R G hi) := by
        cases y with
        | none =>
          cases hi with
          | no => exact po_no
          | _ => cases h3
        | some y => exact po_x (ih hi (by simp at hN; omega) A h3).1 (no h3)
      exact plain_of rfl (p_sl A (p_opd A h1 (ih a (by simp at hN; omega) A h1).1) pl ph)
    · cases h
  | .no =>
    intro hN h
    unfold ckX at h
    cases h
  | .call f es =>
    intro hN h
    unfold ckX at h
    split at h
    · rename_i x p as pos
      obtain ⟨h, h5⟩ := and2 h
      obtain ⟨h, h4⟩ := and2 h
      obtain ⟨h, h3⟩ := and2 h
      obtain ⟨h1, h2⟩ := and2 h
      have h1 := of_decide_eq_true h1
      cases as with
      | nil => cases h4
      | cons a as =>
        cases hf : T.io f with
        | false =>
          rw [hf] at h5
          exact plain_of rfl (p_call0 A h1 h2 (by rw [← hio]; exact hf) h3 (ihs es (by simp at hN; omega) A h5 h3).1)
        | true =>
          rw [hf] at h5
          match es, h5 with
          | .v i :: es, h5 =>
            obtain ⟨h6, h7⟩ := and2 h5
            have h3' := h3
            rw [List.all_cons, Bool.and_eq_true] at h3'
            exact plain_of rfl (p_callIo A h1 h2 (by rw [← hio]; exact hf) h3 (p_var A h6) (ihs es (by simp at hN; omega) A h7 h3'.2).1)
    · cases h
  | .bi f es =>
    intro hN h
    unfold ckX at h
    split at h
    · rename_i x p as pos
      obtain ⟨h, h4⟩ := and2 h
      obtain ⟨h, h3⟩ := and2 h
      obtain ⟨h1, h2⟩ := and2 h
      have h1 := of_decide_eq_true h1
      have gen : ∀ {nm : String}, biN f = some nm → (decide (x = Str.ofString nm) && !as.isEmpty && ckXs T es sc own as) = true → PE C (.Call (.Name x p) as [] pos) (rE R G (.bi f es)) := fun {nm} e1 e2 => by
        obtain ⟨e2, e4⟩ := and2 e2
        obtain ⟨e2, e3⟩ := and2 e2
        have e2 := of_decide_eq_true e2
        subst e2
        cases as with
        | nil => cases e3
        | cons a as => exact p_bi A e1 h1 h2 h3 (ihs es (by simp at hN; omega) A e4 h3).2
      refine plain_of rfl ?_
      cases f with
      | isi t =>
        obtain ⟨h4, h5⟩ := and2 h4
        have h4 := of_decide_eq_true h4
        subst h4
        match as, es, h5 with
        | [a, .Name y p2], [z], h5 =>
          obtain ⟨h5, h8⟩ := and2 h5
          obtain ⟨h5, h7⟩ := and2 h5
          obtain ⟨h5, h6⟩ := and2 h5
          have h5 := of_decide_eq_true h5
          subst h5
          obtain ⟨h8, h9⟩ := and2 h8
          exact p_isi A h1 h2 (of_decide_eq_true h6) h7 h8 (p_opd A h9 (ih z (by simp at hN; omega) A h9).1)
        | [a, .Name y p2], [], h5 => simp at h5
        | [a, .Name y p2], _ :: _ :: _, h5 => simp at h5
      | range1 =>
        obtain ⟨h4, h5⟩ := and2 h4
        have h4 := of_decide_eq_true h4
        subst h4
        match as, es, h5 with
        | [.Call (.Name y p2) [a] [] pos2], [z], h5 =>
          obtain ⟨h5, h8⟩ := and2 h5
          obtain ⟨h5, h7⟩ := and2 h5
          obtain ⟨h5, h6⟩ := and2 h5
          have h5 := of_decide_eq_true h5
          subst h5
          obtain ⟨h8, h9⟩ := and2 h8
          exact p_range1 A h1 h2 (of_decide_eq_true h6) h7 h8 (p_opd A h9 (ih z (by simp at hN; omega) A h9).1)
        | [.Call (.Name y p2) [a] [] pos2], [], h5 => simp at h5
        | [.Call (.Name y p2) [a] [] pos2], _ :: _ :: _, h5 => simp at h5
      | len => exact gen (nm := "len") rfl h4
      | abs => exact gen (nm := "abs") rfl h4
      | tuple => exact gen (nm := "tuple") rfl h4
      | list => exact gen (nm := "list") rfl h4
      | all => exact gen (nm := "all") rfl h4
      | min2 => exact gen (nm := "min") rfl h4
      | max2 => exact gen (nm := "max") rfl h4
      | maxL => exact gen (nm := "max") rfl h4
      | intOf => exact gen (nm := "int") rfl h4
      | dictOf => exact gen (nm := "dict") rfl h4
      | _ => cases h4
    · cases h
  | .mt m o es =>
    intro hN h
    unfold ckX at h
    split at h
    · rename_i l nm apos as cpos
      obtain ⟨h, h7⟩ := and2 h
      obtain ⟨h, h6⟩ := and2 h
      obtain ⟨h, h5⟩ := and2 h
      obtain ⟨h, h4⟩ := and2 h
      obtain ⟨h, h3⟩ := and2 h
      obtain ⟨h1, h2⟩ := and2 h
      have h4 := of_decide_eq_true h4
      cases hm : mtNm m with
      | none => rw [hm] at h1; cases h1
      | some n' =>
        rw [hm] at h1
        have h1 := of_decide_eq_true h1
        subst h1
        match as, h4 with
        | [a], _ =>
          have h3' := h3
          rw [List.all_cons, Bool.and_eq_true] at h3'
          exact plain_of rfl (p_mt A hm h2 h3'.1 h5 (p_opd A h6 (ih o (by simp at hN; omega) A h6).1) (ihs es (by simp at hN; omega) A h7 h3).2)
    · cases h
  | .comp t it ifs elt =>
    intro hN h
    unfold ckX at h
    split at h
    · rename_i el tg ie ifE scope pos
      obtain ⟨h, h7⟩ := and2 h
      obtain ⟨h, h6⟩ := and2 h
      obtain ⟨h, h5⟩ := and2 h
      obtain ⟨h, h4⟩ := and2 h
      obtain ⟨h, h3⟩ := and2 h
      obtain ⟨h1, h2⟩ := and2 h
      have hit : sizeOf it < N := by simp at hN; omega
      have hi : PI C tg ie (rI R G it) := by
        match it, h7, hit with
        | .rng es, h7, hit =>
          simp only at h7
          split at h7
          · rename_i x p as pos
            obtain ⟨h7, k5⟩ := and2 h7
            obtain ⟨h7, k4⟩ := and2 h7
            obtain ⟨h7, k3⟩ := and2 h7
            obtain ⟨k1, k2⟩ := and2 h7
            have k1 := of_decide_eq_true k1
            subst k1
            exact pi_rng A (of_decide_eq_true k2) k3 k4 (ihs es (by simp at hit; omega) A k5 k4).1 (ckXs_len k5)
          · cases h7
        | .zip a b, h7, hit =>
          obtain ⟨k0, h7⟩ := and2 h7
          split at h7
          · rename_i x p l r pos
            obtain ⟨h7, k7⟩ := and2 h7
            obtain ⟨h7, k6⟩ := and2 h7
            obtain ⟨h7, k5⟩ := and2 h7
            obtain ⟨h7, k4⟩ := and2 h7
            obtain ⟨h7, k3⟩ := and2 h7
            obtain ⟨k1, k2⟩ := and2 h7
            have k1 := of_decide_eq_true k1
            subst k1
            exact pi_zipD A k0 (of_decide_eq_true k2) k3 k4 k5 (ih a (by simp at hit; omega) A k6).1.toF (ih b (by simp at hit; omega) A k7).1.toF
          · cases h7
        | .enum a, h7, hit =>
          obtain ⟨k0, h7⟩ := and2 h7
          split at h7
          · rename_i x p l pos
            obtain ⟨h7, k5⟩ := and2 h7
            obtain ⟨h7, k4⟩ := and2 h7
            obtain ⟨h7, k3⟩ := and2 h7
            obtain ⟨k1, k2⟩ := and2 h7
            have k1 := of_decide_eq_true k1
            subst k1
            exact pi_enumD A k0 (of_decide_eq_true k2) k3 k4 (ih a (by simp at hit; omega) A k5).1.toF
          · cases h7
        | .v i, h7, hit => exact pi_val A (ih (.v i) hit A h7).1.toF
        | .c d, h7, hit => exact pi_val A (ih (.c d) hit A h7).1.toF
        | .bin o a b, h7, hit => exact pi_val A (ih (.bin o a b) hit A h7).1.toF
        | .ite c a b, h7, hit => exact pi_val A (ih (.ite c a b) hit A h7).1.toF
        | .tup es, h7, hit => exact pi_val A (ih (.tup es) hit A h7).1.toF
        | .lst es, h7, hit => exact pi_val A (ih (.lst es) hit A h7).1.toF
        | .ix a b, h7, hit => exact pi_val A (ih (.ix a b) hit A h7).1.toF
        | .sl a b c, h7, hit => exact pi_val A (ih (.sl a b c) hit A h7).1.toF
        | .call f es, h7, hit => exact pi_val A (ih (.call f es) hit A h7).1.toF
        | .bi f es, h7, hit => exact pi_val A (ih (.bi f es) hit A h7).1.toF
        | .mt m o es, h7, hit => exact pi_val A (ih (.mt m o es) hit A h7).1.toF
        | .comp a b c d, h7, hit => exact pi_val A (ih (.comp a b c d) hit A h7).1.toF
        | .dictOf a, h7, hit => exact pi_val A (ih (.dictOf a) hit A h7).1.toF
        | .neg a, h7, hit => exact pi_val A (ih (.neg a) hit A h7).1.toF
        | .not a, h7, hit => exact pi_val A (ih (.not a) hit A h7).1.toF
        | .and a b, h7, hit => exact pi_val A (ih (.and a b) hit A h7).1.toF
        | .or a b, h7, hit => exact pi_val A (ih (.or a b) hit A h7).1.toF
        | .cmp o a b, h7, hit => exact pi_val A (ih (.cmp o a b) hit A h7).1.toF
        | .chain o p a b c, h7, hit => exact pi_val A (ih (.chain o p a b c) hit A h7).1.toF
      have hts : ∀ {C' : Cx}, At R T G n C' (relS scope sc) (ownB scope) → PTs C' ifE (rTs R G ifs) := fun {C'} A' => by
        have hl := of_decide_eq_true h4
        have hifs : ∀ y ∈ ifs, sizeOf y < N := fun y hy => by
          have := List.sizeOf_lt_of_mem hy
          simp at hN
          omega
        match ifs, ifE, h5, hl, hifs with
        | [], [], _, _, _ => exact pts_nil'
        | [y], [e1], h5, _, hifs =>
          unfold ckXs at h5
          exact pts_one' (ih y (hifs y (List.mem_singleton_self _)) A' (and2 h5).1).2
        | [], _ :: _, h5, _, _ => unfold ckXs at h5; cases h5
        | _ :: _, [], h5, _, _ => unfold ckXs at h5; cases h5
        | _ :: _ :: _, [_], h5, _, _ =>
          unfold ckXs at h5
          have := (and2 h5).2
          unfold ckXs at this
          cases this
        | _, _ :: _ :: _, _, hl, _ => simp at hl
      exact plain_of rfl (p_comp A h1 h2 h3 hi hts fun A' => (ih elt (by simp at hN; omega) A' h6).1.toF)
    · cases h
  | .rng _ =>
    intro hN h
    unfold ckX at h
    cases h
  | .zip _ _ =>
    intro hN h
    unfold ckX at h
    cases h
  | .enum _ =>
    intro hN h
    unfold ckX at h
    cases h
  | .dict0 =>
    intro hN h
    unfold ckX at h
    cases h
  | .dictOf _ =>
    intro hN h
    exact ⟨⟨fun _ _ σ H Q I ⟨F, env, r, env', S, e, q⟩ => by
      simp only [evX] at e
      cases e⟩, ⟨fun _ _ σ H Q I ⟨F, env, r, env', b, S, e, eb, q⟩ => by
      simp only [evX] at e
      cases e⟩⟩
  | .dict1 _ _ =>
    intro hN h
    unfold ckX at h
    cases h
  | .fld _ _ =>
    intro hN h
    unfold ckX at h
    cases h
  | .meth _ _ _ =>
    intro hN h
    unfold ckX at h
    cases h
  | .make _ _ =>
    intro hN h
    unfold ckX at h
    cases h
theorem pXs_step (N : Nat) (ih : ∀ x : X, sizeOf x < N → GoX R T G n x) (ihs : ∀ xs : List X, sizeOf xs < N → GoXs R T G n xs) (xs : List X) (hN : sizeOf xs < N + 1) : GoXs R T G n xs := by
  intro C sc own es A h hs
  match xs, es, h with
  | [], [], _ => exact ⟨pa_nil', pao_nil⟩
  | [], _ :: _, h => unfold ckXs at h; cases h
  | _ :: _, [], h => unfold ckXs at h; cases h
  | x :: xs, e :: es, h =>
    unfold ckXs at h
    obtain ⟨h1, h2⟩ := and2 h
    rw [List.all_cons, Bool.and_eq_true] at hs
    have p := ih x (by simp at hN; omega) A h1
    have q := ihs xs (by simp at hN; omega) A h2 hs.2
    exact ⟨pa_cons' hs.1 p.1.toF q.1, pao_cons hs.1 (p_opd A h1 p.1) q.2⟩
theorem pX_all (hio : ∀ f, T.io f = G.io f) : ∀ N : Nat, (∀ x : X, sizeOf x < N → GoX R T G n x) ∧ ∀ xs : List X, sizeOf xs < N → GoXs R T G n xs
  | 0 => ⟨fun x h => absurd h (Nat.not_lt_zero _), fun x h => absurd h (Nat.not_lt_zero _)⟩
  | N + 1 => ⟨pX_step hio N (pX_all hio N).1 (pX_all hio N).2, pXs_step N (pX_all hio N).1 (pX_all hio N).2⟩
theorem pX (hio : ∀ f, T.io f = G.io f) (x : X) : GoX R T G n x := (pX_all hio (sizeOf x + 1)).1 x (Nat.lt_succ_self _)
theorem pXs (hio : ∀ f, T.io f = G.io f) (xs : List X) : GoXs R T G n xs := (pX_all hio (sizeOf xs + 1)).2 xs (Nat.lt_succ_self _)
end
end PK
end
section
set_option Elab.async false
set_option linter.all false
set_option maxRecDepth 100000
set_option maxHeartbeats 4000000
/-! PkStm: statements: what the evaluator says, the text does. -/
namespace PK
open PySem PySem.Spec PyProof.Rows L2
def RtOk (R : RCx) (H : Hp) (σ : L2.St) (env : Env) (F' H' : Hp) (d : D) (fr : Bool) (z : V) : Prop := match fr with
  | false => Rep R F' d z
  | true => ∃ p o, z = .ref p ∧ F' p = none ∧ H' p = some o ∧ CRep R F' o d ∧ (H p = none ∨ OwnO σ env p)
def Post (R : RCx) (E : Ends) (F H : Hp) (σ : L2.St) (env : Env) : Out → Prop
  | .nx env' => ∀ F' H' σ', Stp R F H σ env F' H' σ' env' → E.nx σ' H'
  | .rt d fr env' => ∀ F' H' σ' z, Stp R F H σ env F' H' σ' env' → RtOk R H σ env F' H' d fr z → E.rt z H'
  | .bk env' => ∀ F' H' σ', Stp R F H σ env F' H' σ' env' → E.bk σ' H'
  | .ct env' => ∀ F' H' σ', Stp R F H σ env F' H' σ' env' → E.ct σ' H'
def rS (R : RCx) (G : PK.Gl) (s : S) : TS := fun E σ H => ∃ F env o, SRep R F H σ env ∧ evS G s env = .ok o ∧ Post R E F H σ env o
def rSs (R : RCx) (G : PK.Gl) (ss : List S) : TS := fun E σ H => ∃ F env o, SRep R F H σ env ∧ evSs G ss env = .ok o ∧ Post R E F H σ env o
/-- a def's body -/
structure AtD (R : RCx) (T : Ck) (G : PK.Gl) (n : Nat) (C : Cx) (sc : Scope) : Prop where
  at_ : At R T G n C sc (fun _ => true)
  kind : C.env.scope.kind = .function
  io : ∀ f, T.io f = G.io f
section
variable {R : RCx} {T : Ck} {G : PK.Gl} {n : Nat} {C : Cx} {sc : Scope}
theorem RtOk.back {F H F' H' F2 H2 : Hp} {σ σ' : L2.St} {env env' : Env} {d : D} {fr : Bool} {z : V} (s : Stp R F H σ env F' H' σ' env') (h : RtOk R H' σ' env' F2 H2 d fr z) : RtOk R H σ env F2 H2 d fr z := by
  cases fr with
  | false => exact h
  | true =>
    obtain ⟨p, o, e1, e2, e3, e4, e5⟩ := h
    refine ⟨p, o, e1, e2, e3, e4, ?_⟩
    rcases e5 with e | e
    · exact .inl (none_of_live (s.fr.live p) e)
    · rcases s.oo p e with x | x
      · exact .inr x
      · exact .inl x
theorem Post.trans {E : Ends} {F H F' H' : Hp} {σ σ' : L2.St} {env env' : Env} {o : Out} (s : Stp R F H σ env F' H' σ' env') (h : Post R E F H σ env o) : Post R E F' H' σ' env' o := by
  cases o with
  | nx e => exact fun F2 H2 σ2 t => h F2 H2 σ2 (s.trans t)
  | rt d fr e => exact fun F2 H2 σ2 z t r => h F2 H2 σ2 z (s.trans t) (r.back s)
  | bk e => exact fun F2 H2 σ2 t => h F2 H2 σ2 (s.trans t)
  | ct e => exact fun F2 H2 σ2 t => h F2 H2 σ2 (s.trans t)
theorem VOk.rt {H F' H' : Hp} {σ : L2.St} {env : Env} {d : D} {fr : Bool} {z : V} (h : VOk R H F' H' d fr z) : RtOk R H σ env F' H' d fr z := by
  cases fr with
  | false => exact h
  | true =>
    obtain ⟨p, o, e1, e2, e3, e4, e5⟩ := h
    exact ⟨p, o, e1, e2, e3, e4, .inl e5⟩
/-! ### blocks -/
theorem pss_nil' : PSs C [] (rSs R G []) := pss_nil.imp fun E σ H ⟨F, env, o, S, e, q⟩ => by
  simp only [evSs] at e
  cases e
  exact q F H σ (.refl S)
theorem pss_cons' {s : S} {ss : List S} {st : Stmt} {sts : List Stmt} (h1 : PS C st (rS R G s)) (h2 : PSs C sts (rSs R G ss)) : PSs C (st :: sts) (rSs R G (s :: ss)) := by
  refine (pss_cons h1 h2).imp fun E σ H ⟨F, env, o, S, e, q⟩ => ?_
  simp only [evSs, Res.seq] at e
  obtain ⟨o1, h3, e⟩ := Res.bind_ok e
  refine ⟨F, env, o1, S, h3, ?_⟩
  cases o1 with
  | nx env1 => exact fun F1 H1 σ1 st => ⟨F1, env1, o, st.rep, e, q.trans st⟩
  | rt d fr env1 => cases e; exact q
  | bk env1 => cases e; exact q
  | ct env1 => cases e; exact q
/-! ### plain statements -/
theorem ps_ret' {x : X} {e : Expr} {pos : Pos} (A : AtD R T G n C sc) (hc : ckX T x sc (fun _ => true) e = true) : PS C (.Return (some e) pos) (rS R G (.ret x)) := by
  cases hn : isName x with
  | some i =>
    cases isName_v hn
    unfold ckX at hc
    refine (ps_ret (p_var A.at_ hc)).imp fun E σ H ⟨F, env, o, S, e, q⟩ => ?_
    simp only [evS, retX, isName] at e
    split at e
    · rename_i d ha
      cases e
      obtain ⟨v, hv, hs⟩ := S.get _ _ _ ha
      exact ⟨v, hv, q F H σ v (.refl S) hs⟩
    · rename_i d ha
      cases e
      obtain ⟨v, hv, a, o, e1, e2, e3, e4⟩ := S.get _ _ _ ha
      subst e1
      exact ⟨_, hv, q F H σ _ (.refl S) ⟨a, o, rfl, e2, e3, e4, .inr ⟨_, d, ha, hv⟩⟩⟩
    · cases e
  | none =>
    refine (ps_ret (pX A.io x A.at_ hc).1).imp fun E σ H ⟨F, env, o, S, e, q⟩ => ?_
    simp only [evS, retX, hn] at e
    obtain ⟨⟨r, e1⟩, h1, e⟩ := Res.bind_ok e
    cases e
    exact ⟨F, env, r, e1, S, h1, fun z F' H' st vo => q F' H' σ z st.stp vo.rt⟩
theorem ps_retNo {pos : Pos} : PS C (.Return none pos) (rS R G (.ret .no)) := ps_retN.imp fun E σ H ⟨F, env, o, S, e, q⟩ => by
  simp only [evS, retX, isName, evX] at e
  obtain ⟨⟨r, e1⟩, h1, e⟩ := Res.bind_ok e
  cases h1
  cases e
  exact q F H σ .non (.refl S) rfl
theorem ps_ex' {x : X} {e : Expr} {pos : Pos} (hn : notComp e = true) (h : PE C e (rE R G x)) : PS C (.Expr e pos) (rS R G (.ex x)) := by
  refine (ps_expr h (swaps_not hn)).imp fun E σ H ⟨F, env, o, S, e, q⟩ => ?_
  simp only [evS] at e
  obtain ⟨⟨r, e1⟩, h1, e⟩ := Res.bind_ok e
  cases e
  exact ⟨F, env, r, e1, S, h1, fun z F' H' st vo => q F' H' σ st.stp⟩
theorem ps_if' {x : X} {a b : List S} {c : Expr} {as bs : List Stmt} {pos : Pos} (hc : PT C c (rT R G x)) (ha : PSs C as (rSs R G a)) (hb : PSs C bs (rSs R G b)) : PS C (.If c as bs pos) (rS R G (.iff x a b)) := by
  refine (ps_if hc ha hb).imp fun E σ H ⟨F, env, o, S, e, q⟩ => ?_
  simp only [evS] at e
  obtain ⟨⟨r, e1⟩, h1, e⟩ := Res.bind_ok e
  obtain ⟨k, h2, e⟩ := Res.bind_ok e
  refine ⟨F, env, r, e1, k, S, h1, h2, fun F' H' st => ?_⟩
  cases k with
  | true => rw [if_pos rfl]; exact ⟨F', e1, o, st.rep, e, q.trans st.stp⟩
  | false => rw [if_neg Bool.false_ne_true]; exact ⟨F', e1, o, st.rep, e, q.trans st.stp⟩
theorem ps_pass' {pos : Pos} : PS C (.Pass pos) (rS R G .pass) := ps_pass.imp fun E σ H ⟨F, env, o, S, e, q⟩ => by
  simp only [evS] at e
  cases e
  exact q F H σ (.refl S)
theorem ps_brk' {pos : Pos} : PS C (.Break pos) (rS R G .brk) := ps_break.imp fun E σ H ⟨F, env, o, S, e, q⟩ => by
  simp only [evS] at e
  cases e
  exact q F H σ (.refl S)
theorem ps_cnt' {pos : Pos} : PS C (.Continue pos) (rS R G .cnt) := ps_continue.imp fun E σ H ⟨F, env, o, S, e, q⟩ => by
  simp only [evS] at e
  cases e
  exact q F H σ (.refl S)
/-! ### assignments -/
theorem put_new {F H F' H' : Hp} {σ : L2.St} {env env' : Env} {i : Nat} {d : D} {fr : Bool} {z : V} (S : SRep R F H σ env) (st : StpE R F H σ env F' H' env') (vo : VOk R H F' H' d fr z) : Stp R F H σ env F' H' (σ.set i (some z)) (put env' i (some (if fr then .o else .f, d))) := by
  refine st.stp.put ?_
  cases fr with
  | false => exact .inl ⟨rfl, vo⟩
  | true =>
    obtain ⟨p, o, e1, e2, e3, e4, e5⟩ := vo
    refine .inr ⟨rfl, p, o, e1, e2, e3, e4, e5, fun z => ?_⟩
    obtain ⟨_, u, e⟩ := own_live S (st.ownSub z)
    rw [e5] at e; cases e
theorem set_go {i : Nat} {x : X} : ∀ E σ H, rS R G (.set (.nm i) x) E σ H → tAsg (rE R G x) (gName i) E σ H := fun E σ H ⟨F, env, o, S, e, q⟩ => by
  simp only [evS, asg] at e
  obtain ⟨⟨r, e1⟩, h1, e⟩ := Res.bind_ok e
  obtain ⟨e2, h2, e⟩ := Res.bind_ok e
  cases h2
  cases e
  exact ⟨F, env, r, e1, S, h1, fun z F' H' st vo => q F' H' _ (put_new S st vo)⟩
theorem ps_setNm (A : AtD R T G n C sc) {i : Nat} {x : X} {y : Str} {e : Expr} {p pos : Pos} (hg : ckG T sc (fun _ => true) (.nm i) (.Name y p) = true) (h : PE C e (rE R G x)) (hs : swapsWith e (some (.Name y p)) pos.line C.env = pure false) : PS C (.Assign [.Name y p] e pos) (rS R G (.set (.nm i) x)) := by
  unfold ckG at hg
  obtain ⟨h1, h2⟩ := and2 hg
  obtain ⟨l1, l2⟩ := A.at_.loc h2
  exact (ps_set A.at_.nd (by rw [A.at_.N]; exact of_decide_eq_true h1) l1 h hs l2).imp set_go
theorem ps_setTp (A : AtD R T G n C sc) {ts : List Tg} {x : X} {es : List Expr} {k : Nat} {e : Expr} {p pos : Pos} (hg : ckG T sc (fun _ => true) (.tp ts) (.Tuple es k p) = true) (h : PE C e (rE R G x)) (hn : notTup e = true) : PS C (.Assign [.Tuple es k p] e pos) (rS R G (.set (.tp ts) x)) := by
  have hs : swapsWithSole [.Tuple es k p] e pos.line C.env = pure false := by
    cases e <;> rfl
  refine (ps_asg h.toF (pG A.at_ (.tp ts) _ hg) hs (swst_not hn)).imp fun E σ H ⟨F, env, o, S, e, q⟩ => ?_
  simp only [evS] at e
  obtain ⟨⟨r, e1⟩, h1, e⟩ := Res.bind_ok e
  obtain ⟨e2, h2, e⟩ := Res.bind_ok e
  cases e
  refine ⟨F, env, r, e1, S, h1, fun z F' H' st rp => ⟨F', e1, r.1, e2, st.rep, rp, ?_, fun σ' s2 _ _ => q F' H' σ' (st.stp.trans s2)⟩⟩
  simp only [asg] at h2 ⊢
  exact h2
theorem kind_block (A : AtD R T G n C sc) : (C.env.blockKind == .function) = true := by
  unfold PySem.Env.blockKind
  rw [A.kind]
  rfl
theorem ps_setLc' (A : AtD R T G n C sc) {i : Nat} {t : Tg} {it elt : X} {ifs : List X} {y : Str} {el tg ie : Expr} {ifE : List Expr} {scope : Scope} {p pos spos : Pos} (hy : T.N[i]? = some y) (hl : sc.names.lookup y = some .local)
    (hw : (p.line == pos.line && !(scope.names.any fun (m, k) => m == y && (k == .local || k == .cell))) = true)
    (hb : blkC T.N sc scope (ownOf T.N t.slots) = true) (hg : ckG T (relS scope sc) (ownB scope) t tg = true) (hs : notSet ie = true) (hi : PI C tg ie (rI R G it))
    (ht : ∀ {C' : Cx}, At R T G n C' (relS scope sc) (ownB scope) → PTs C' ifE (rTs R G ifs)) (he : ∀ {C' : Cx}, At R T G n C' (relS scope sc) (ownB scope) → PE C' el (rF R G elt)) :
    PS C (.Assign [.Name y p] (.ListComp el [⟨tg, ie, ifE, 0⟩] scope pos) spos) (rS R G (.set (.nm i) (.comp t it ifs elt))) := by
  have ok : BlkOk C.N C.env.scope scope (ownOf T.N t.slots) := by
    rw [A.at_.N, A.at_.sc]
    exact blkOk_by hb
  have hyl : C.env.scope.names.lookup y = some .local := by rw [A.at_.sc]; exact hl
  have hsw : swapsWith (.ListComp el [⟨tg, ie, ifE, 0⟩] scope pos) (some (.Name y p)) spos.line C.env = pure true := by
    show pure (C.env.blockKind == .function && C.env.kindOf y == some .local && p.line == pos.line && !(scope.names.any fun (m, k) => m == y && (k == .local || k == .cell))) = _
    rw [kind_block A, show (C.env.kindOf y == some NameKind.local) = true from by unfold PySem.Env.kindOf; rw [hyl]; rfl, Bool.true_and, Bool.true_and, hw]
  refine (ps_setLc A.at_.calm A.at_.nd (by rw [A.at_.N]; exact hy) hyl hsw hi ok (fun s H a cl fp => pG (A.at_.blk s H a cl fp) t tg hg) (fun s H a cl fp => ht (A.at_.blk s H a cl fp)) (fun s H a cl fp => he (A.at_.blk s H a cl fp)) (folded_not hs)).imp fun E σ H q => ?_
  rw [ownOf_slots]
  exact lc_go σ H _ (set_go E σ H q)
/-! ### changes of what a name holds -/
theorem chg_ok {F H : Hp} {σ : L2.St} {env env' : Env} {i : Nat} {g : D → Option D} (S : SRep R F H σ env) (e : chgE i g env = .ok env') : ∃ k d d' a o, k ≠ .f ∧ at_ env i = some (k, d) ∧ g d = some d' ∧ env' = put env i (some (k, d')) ∧ σ[i]? = some (some (.ref a)) ∧ F a = none ∧ H a = some o ∧ CRep R F o d := by
  unfold chgE at e
  split at e
  · cases e
  · rename_i k d hk ha
    obtain ⟨d', h1, e⟩ := Res.bind_ok e
    cases e
    obtain ⟨v, hv, hs⟩ := S.get i k d ha
    cases k with
    | f => exact absurd rfl hk
    | o =>
      obtain ⟨a, o, rfl, x, y, z⟩ := hs
      exact ⟨_, d, d', a, o, hk, ha, Res.of_ok h1, rfl, hv, x, y, z⟩
    | io =>
      obtain ⟨a, o, rfl, x, y, z⟩ := hs
      exact ⟨_, d, d', a, o, hk, ha, Res.of_ok h1, rfl, hv, x, y, z⟩
  · cases e
theorem chg_step {F H : Hp} {σ : L2.St} {env : Env} {i : Nat} {k : Ow} {d d' : D} {a : Addr} {o o' : HO} (S : SRep R F H σ env) (ha : at_ env i = some (k, d)) (hk : k ≠ .f) (hs : σ[i]? = some (some (.ref a))) (hf : F a = none) (hh : H a = some o) (hc : CRep R F o' d') :
    StpE R F H σ env F (upd H a o') (put env i (some (k, d'))) := by
  refine .lent S ha hk hs (fun b u e => ?_) ⟨.refl _, fun b u e n => by rw [upd_ne n]; exact e, fun b u e => .inl e, fun b h => .inl h, fun b u e => ?_⟩ hf upd_same hc
  · rw [upd_ne (fun z => by subst z; rw [hf] at e; cases e)]
    exact S.le b u e
  · by_cases z : b = a
    · exact ⟨o', by rw [z, upd_same]⟩
    · exact ⟨u, by rw [upd_ne z]; exact e⟩
/-- a name in a slot stays where it is through a step -/
theorem ps_setIx' (A : AtD R T G n C sc) {i : Nat} {k x : X} {l ke e : Expr} {tpos pos : Pos} (hv : ckV T sc i l = true) (hn : notSlice ke = true) (hk : PE C ke (rF R G k)) (h : PE C e (rF R G x)) : PS C (.Assign [.Subscript l ke tpos] e pos) (rS R G (.setIx i k x)) := by
  have ha : ∀ v, assign (.Subscript l ke tpos) C.env v = (do
      let ov ← holding [v] (eval l C.env)
      let iv ← holding [v, ov] (eval ke C.env)
      standAt tpos
      holding [v, ov, iv] (setItem ov iv v)
      release [v, ov, iv] []) := by
    intro v
    cases ke <;> first | rfl | cases hn
  have hs : swapsWithSole [.Subscript l ke tpos] e pos.line C.env = pure false := by cases e <;> rfl
  have hw : swappedStores [.Subscript l ke tpos] e C.env = pure none := by cases e <;> rfl
  refine (ps_asg h (pg_sub (p_var A.at_ hv) hk set_list ha) hs hw).imp fun E σ H ⟨F, env, o, S, e, q⟩ => ?_
  simp only [evS] at e
  obtain ⟨⟨r, e1⟩, h1, e⟩ := Res.bind_ok e
  split at e
  case h_2 => cases e
  rename_i y hy
  obtain ⟨⟨rk, e2⟩, h2, e⟩ := Res.bind_ok e
  obtain ⟨e3, h3, e⟩ := Res.bind_ok e
  cases e
  refine ⟨F, env, r, e1, S, h1, fun z F1 H1 st1 rz => ?_⟩
  obtain ⟨v, hvv, _⟩ := st1.rep.get i y.1 y.2 hy
  refine ⟨v, hvv, F1, e1, rk, e2, st1.rep, h2, fun zk F2 H2 st2 rzk => ?_⟩
  obtain ⟨kk, d, d', a, ob, hkf, hat, hg, rfl, hsa, hfa, hha, hcr⟩ := chg_ok st2.rep h3
  rw [hvv] at hsa
  cases hsa
  obtain ⟨dk, fk⟩ := rk
  cases d with
  | lst xs =>
    cases dk with
    | int j =>
      simp only [setD] at hg
      obtain ⟨j', hj, hg⟩ := Option.map_eq_some_iff.mp hg
      subst hg
      obtain ⟨vs, rfl, rl⟩ := hcr
      cases (show zk = V.int j from rzk)
      refine ⟨a, vs, j, j', rfl, rfl, hha, by rw [rl.length]; exact hj, ?_⟩
      exact q F2 _ σ ((st1.trans st2).trans (chg_step (o' := .lst (vs.set j' z)) (d' := .lst (xs.set j' r.1)) st2.rep hat hkf hvv hfa hha ⟨_, rfl, rl.set (rz.mono st2.fr.mono) j'⟩)).stp
    | _ => cases hg
  | _ => cases hg
theorem ps_app' (A : AtD R T G n C sc) {i : Nat} {x : X} {l e : Expr} {apos cpos pos : Pos} (hv : ckV T sc i l = true) (hb : notCall0 l = true) (hs : notStar e = true) (hl : (apos.endLine == cpos.line) = true) (h : PE C e (rF R G x)) : PS C (.Expr (.Call (.Attribute l ("append" : Str) apos) [e] [] cpos) pos) (rS R G (.app i x)) := by
  have s1 := star_cons (env := C.env) (es := []) hs
  have few : ((backTo cpos (starEach [e] C.env)).all (fun x => !x.1) && (backToKw cpos (keywordEach [] C.env)).all (fun x => x.1.isSome) && decide ([e].length + ([] : List Keyword).length + (if ([] : List Keyword).isEmpty then 0 else 1) < 30)) = true := by
    rw [star_few (by rw [List.all_cons, hs]; rfl)]
    rfl
  refine (ps_expr (pe_bm PySem.F.plainAttrs_list PySem.F.slot_list_append PySem.F.type_list_append mt_append (p_var A.at_ hv) (pa_cons h pa_nil s1) (base_not hb) few hl s1 rfl) rfl).imp fun E σ H ⟨F, env, o, S, e, q⟩ => ?_
  simp only [evS] at e
  split at e
  case h_2 => cases e
  rename_i k0 d0 hy
  obtain ⟨⟨r, e1⟩, h1, e⟩ := Res.bind_ok e
  split at e
  case isFalse => cases e
  rename_i hk2
  obtain ⟨e3, h3, e⟩ := Res.bind_ok e
  cases e
  obtain ⟨v, hvv, hs0⟩ := S.get i k0 d0 hy
  have ty : tyV C.K "list" v H := by
    obtain ⟨zs, rfl⟩ : ∃ zs, d0 = D.lst zs := by
      cases d0 <;> first | exact ⟨_, rfl⟩ | (simp [knd] at hk2; done)
    have : ∃ a vs, v = V.ref a ∧ H a = some (.lst vs) := by
      cases k0 with
      | f =>
        have hs0 : Rep R F (.lst zs) v := hs0
        unfold Rep at hs0
        obtain ⟨a, vs, rfl, ha, _⟩ := hs0
        exact ⟨a, vs, rfl, S.le _ _ ha⟩
      | o =>
        obtain ⟨a, o, rfl, _, hh, vs, rfl, _⟩ := hs0
        exact ⟨a, vs, rfl, hh⟩
      | io =>
        obtain ⟨a, o, rfl, _, hh, vs, rfl, _⟩ := hs0
        exact ⟨a, vs, rfl, hh⟩
    obtain ⟨a, vs, rfl, ha⟩ := this
    exact .inl ⟨rfl, vs, SqL.of ha⟩
  refine ⟨v, hvv, ty, F, env, r, e1, S, h1, fun z F1 H1 st1 rz => ?_⟩
  obtain ⟨kk, d, d', a, ob, hkf, hat, hg, rfl, hsa, hfa, hha, hcr⟩ := chg_ok st1.rep h3
  rw [hvv] at hsa
  cases hsa
  cases d with
  | lst xs =>
    simp only [appD] at hg
    split at hg
    · rename_i hz
      cases hg
      obtain ⟨vs, rfl, rl⟩ := hcr
      refine ⟨a, vs, z, rfl, rfl, hha, by rw [rl.length, ← line_eq]; exact hz, ?_⟩
      exact q F1 _ σ (st1.trans (chg_step (o' := .lst (vs ++ [z])) (d' := .lst (xs ++ [r.1])) st1.rep hat hkf hvv hfa hha ⟨_, rfl, rl.append ⟨z, [], rfl, rz, rfl⟩⟩)).stp
    · cases hg
  | _ => cases hg
/-! ### loops -/
theorem ps_whl' (A : AtD R T G n C sc) {c : X} {b : List S} {ce : Expr} {bs : List Stmt} {pos : Pos} (hc : PT C ce (rT R G c)) (hb : PSs C bs (rSs R G b)) : PS C (.While ce bs [] pos) (rS R G (.whl c b)) := by
  have hp : PassesOwn (model C.prog C.w) C.A C.env C.xe := by rw [A.at_.xe]; exact PassesOwn.never
  refine (ps_while hp hc hb).imp fun E σ H ⟨F, env, o, S, e, q⟩ => ?_
  simp only [evS, whl] at e
  split at e
  case isFalse => cases e
  rename_i hex
  obtain ⟨m0, e0⟩ := hex.choose_spec
  have eo : hex.choose = o := by
    cases e
    rfl
  rw [eo] at e0
  clear e
  have e := e0
  refine ⟨fun m σ' H' => ∃ F' env', Stp R F H σ env F' H' σ' env' ∧ whlN (fun e => (evX G c e).bind fun x => (tst x.1.1).bind fun t => .ok (t, x.2)) (fun e => evSs G b e) m env' = .ok o, ⟨m0, F, env, .refl S, e⟩, ?_⟩
  rintro m σ1 H1 ⟨F1, env1, st1, hm⟩
  cases m with
  | zero => simp only [whlN] at hm; cases hm
  | succ m =>
    simp only [whlN] at hm
    obtain ⟨⟨k, env2⟩, h1, hm⟩ := Res.bind_ok hm
    obtain ⟨⟨r, e2⟩, h2, h1⟩ := Res.bind_ok h1
    obtain ⟨t, h3, h1⟩ := Res.bind_ok h1
    cases h1
    refine ⟨F1, env1, r, _, k, st1.rep, h2, h3, fun F2 H2 st2 => ?_⟩
    cases k with
    | false =>
      rw [if_neg Bool.false_ne_true]
      cases hm
      exact q F2 H2 σ1 (st1.trans st2.stp)
    | true =>
      rw [if_pos rfl]
      obtain ⟨o1, h4, hm⟩ := Res.bind_ok hm
      refine ⟨fun σ' H' => ∃ F' env', Stp R F H σ env F' H' σ' env' ∧ whlN (fun e => (evX G c e).bind fun x => (tst x.1.1).bind fun t => .ok (t, x.2)) (fun e => evSs G b e) m env' = .ok o, fun σ' H' h => ⟨m, Nat.lt_succ_self m, h⟩, F2, _, o1, st2.rep, h4, ?_⟩
      have st := st1.trans st2.stp
      cases o1 with
      | nx e3 => exact fun F3 H3 σ3 s3 => ⟨F3, e3, st.trans s3, hm⟩
      | ct e3 => exact fun F3 H3 σ3 s3 => ⟨F3, e3, st.trans s3, hm⟩
      | bk e3 => cases hm; exact fun F3 H3 σ3 s3 => q F3 H3 σ3 (st.trans s3)
      | rt d fr e3 => cases hm; exact fun F3 H3 σ3 z s3 r3 => q F3 H3 σ3 z (st.trans s3) (r3.back st)
theorem ps_fr' (A : AtD R T G n C sc) {t : Tg} {it : X} {b : List S} {tg ie : Expr} {bs : List Stmt} {pos : Pos} (hg : ckG T sc (fun _ => true) t tg = true) (hs : notSet ie = true) (hi : PI C tg ie (rI R G it)) (hb : PSs C bs (rSs R G b)) : PS C (.For tg ie bs [] pos) (rS R G (.fr t it b)) := by
  have hp : PassesOwn (model C.prog C.w) C.A C.env C.xe := by rw [A.at_.xe]; exact PassesOwn.never
  refine (ps_for hp A.at_.calm hi (pG A.at_ t tg hg) hb (folded_not hs)).imp fun E σ H ⟨F, env, o, S, e, q⟩ => ?_
  simp only [evS] at e
  obtain ⟨⟨r, e1⟩, h1, e⟩ := Res.bind_ok e
  obtain ⟨ds, h2, e⟩ := Res.bind_ok e
  refine ⟨F, env, r, e1, ds, S, h1, h2, fun J F1 H1 st1 jok => ?_⟩
  refine ⟨fun i m σ' H' => ∃ F' env', Stp R F1 H1 σ e1 F' H' σ' env' ∧ m = ds.length - i ∧ i ≤ ds.length ∧ forL (fun d e => asg t d false e) (fun e => evSs G b e) (ds.drop i) env' = .ok o, ⟨ds.length, F1, e1, .refl st1.rep, by omega, Nat.zero_le _, by simpa using e⟩, ?_⟩
  rintro i m σ2 H2 ⟨F2, env2, st2, rfl, hi, hf⟩
  rcases jok i F2 H2 st2.fr.mono st2.rep.le hi with ⟨ei, stop⟩ | ⟨d, hd, go, yl⟩
  · refine .inl ⟨stop, ?_⟩
    subst ei
    rw [List.drop_length] at hf
    simp only [forL] at hf
    cases hf
    exact q F2 H2 σ2 (st1.stp.trans st2)
  · have hlt : i < ds.length := (List.getElem?_eq_some_iff.mp hd).1
    have hdrop : ds.drop i = d :: ds.drop (i + 1) := by
      rw [List.drop_eq_getElem_cons hlt]
      rw [List.getElem?_eq_getElem hlt] at hd
      cases hd
      rfl
    rw [hdrop] at hf
    simp only [forL] at hf
    obtain ⟨env3, h3, hf⟩ := Res.bind_ok hf
    obtain ⟨o1, h4, hf⟩ := Res.bind_ok hf
    refine .inr ⟨go, fun σ' H' => ∃ F' env', Stp R F1 H1 σ e1 F' H' σ' env' ∧ forL (fun d e => asg t d false e) (fun e => evSs G b e) (ds.drop (i + 1)) env' = .ok o, fun σ' H' ⟨F', env', a1, a2⟩ => ⟨ds.length - (i + 1), by omega, F', env', a1, rfl, hlt, a2⟩, fun x H3 y => ?_⟩
    obtain ⟨F3, ps, rx⟩ := yl x H3 y
    have st3 := st2.trans (StpE.pst st2.rep ps).stp
    refine ⟨F3, env2, d, env3, st3.rep, rx, h3, fun σ4 s4 _ _ => ?_⟩
    have st4 := st3.trans s4
    refine ⟨F3, env3, o1, st4.rep, h4, ?_⟩
    cases o1 with
    | nx e5 => exact fun F5 H5 σ5 s5 => ⟨F5, e5, st4.trans s5, hf⟩
    | ct e5 => exact fun F5 H5 σ5 s5 => ⟨F5, e5, st4.trans s5, hf⟩
    | bk e5 => cases hf; exact fun F5 H5 σ5 s5 => q F5 H5 σ5 (st1.stp.trans (st4.trans s5))
    | rt dd fr e5 => cases hf; exact fun F5 H5 σ5 z s5 r5 => q F5 H5 σ5 z (st1.stp.trans (st4.trans s5)) (r5.back (st1.stp.trans st4))
end
end PK
end
section
set_option Elab.async false
set_option linter.all false
set_option maxRecDepth 100000
set_option maxHeartbeats 4000000
/-! PkPar: a, b, .. = x, y, ..; every statement that the checker passes. -/
namespace PK
open PySem PySem.Spec PyProof.Rows L2
def VsOk (R : RCx) (H0 F H : Hp) : List DF → List V → Prop
  | [], vs => vs = []
  | r :: rs, vs => ∃ v vs', vs = v :: vs' ∧ VOk R H0 F H r.1 r.2 v ∧ VsOk R H0 F H rs vs' ∧ (r.2 = true → ∀ (j : Nat) (r' : DF) (w : V), rs[j]? = some r' → r'.2 = true → vs'[j]? = some w → w ≠ v)
def setL (σ : L2.St) : List Nat → List V → L2.St
  | i :: is, v :: vs => setL (σ.set i (some v)) is vs
  | _, _ => σ
def rPs (R : RCx) (G : PK.Gl) (es : List X) : TA := fun σ H Q => ∃ F env rs env', SRep R F H σ env ∧ evPs G es env = .ok (rs, env') ∧ ∀ vs F' H', StpE R F H σ env F' H' env' → VsOk R H F' H' rs vs → Q vs H'
section
variable {R : RCx} {T : Ck} {G : PK.Gl} {n : Nat} {C : Cx} {sc : Scope}
theorem VsOk.new {H0 F H : Hp} : ∀ {rs : List DF} {vs : List V} {j : Nat} {r : DF} {w : V}, VsOk R H0 F H rs vs → rs[j]? = some r → r.2 = true → vs[j]? = some w → ∃ p, w = .ref p ∧ H0 p = none
  | r0 :: rs, _, 0, r, w, ⟨v, vs', rfl, h, _, _⟩, e1, e2, e3 => by
    simp at e1 e3
    subst e1 e3
    rw [e2] at h
    obtain ⟨p, o, e, _, _, _, h0⟩ := h
    exact ⟨p, e, h0⟩
  | r0 :: rs, _, j + 1, r, w, ⟨v, vs', rfl, _, h, _⟩, e1, e2, e3 => VsOk.new (j := j) h (by simpa using e1) e2 (by simpa using e3)
  | [], _, j, r, w, _, e1, _, _ => by simp at e1
theorem VsOk.back {H0 H1 F H : Hp} (l : ∀ a o, H0 a = some o → ∃ o', H1 a = some o') : ∀ {rs : List DF} {vs : List V}, VsOk R H1 F H rs vs → VsOk R H0 F H rs vs
  | [], _, h => h
  | r :: rs, _, ⟨v, vs', e, h1, h2, h3⟩ => ⟨v, vs', e, h1.back l, VsOk.back l h2, h3⟩
theorem VsOk.length {H0 F H : Hp} : ∀ {rs : List DF} {vs : List V}, VsOk R H0 F H rs vs → vs.length = rs.length
  | [], _, h => by cases h; rfl
  | r :: rs, _, ⟨v, vs', e, h1, h2, h3⟩ => by subst e; simp [VsOk.length h2]
/-- an object of nobody's is laid -/
theorem VsOk.poke {H0 F H : Hp} {p : Addr} {o : HO} (h : H p = none) : ∀ {rs : List DF} {vs : List V}, VsOk R H0 F H rs vs → VsOk R H0 F (upd H p o) rs vs
  | [], _, x => x
  | r :: rs, _, ⟨v, vs', e, h1, h2, h3⟩ => by
    refine ⟨v, vs', e, ?_, VsOk.poke h h2, h3⟩
    obtain ⟨d, fr⟩ := r
    cases fr with
    | false => exact h1
    | true =>
      obtain ⟨q, u, e1, e2, e3, e4, e5⟩ := h1
      exact ⟨q, u, e1, e2, by rw [upd_ne (ne_of_none e3 h)]; exact e3, e4, e5⟩
theorem pps_nil : PA C [] (rPs R G []) := pa_nil.imp fun σ H Q ⟨F, env, ds, env', S, e, q⟩ => by
  simp only [evPs] at e
  cases e
  exact q [] F H (.refl S) rfl
theorem pps_cons {x : X} {xs : List X} {e : Expr} {es : List Expr} (hs : notStar e = true) (hx : PE C e (rE R G x)) (hr : PA C es (rPs R G xs)) : PA C (e :: es) (rPs R G (x :: xs)) := by
  refine (pa_cons hx hr (star_cons hs)).imp fun σ H Q ⟨F, env, ds, env', S, e, q⟩ => ?_
  simp only [evPs] at e
  obtain ⟨⟨r, e1⟩, h1, e⟩ := Res.bind_ok e
  obtain ⟨⟨rs, e2⟩, h2, e⟩ := Res.bind_ok e
  cases e
  refine ⟨F, env, r, e1, S, h1, fun z F1 H1 st1 p1 => ⟨F1, e1, rs, _, st1.rep, h2, fun vs F2 H2 st2 p2 => q (z :: vs) F2 H2 (st1.trans st2) ⟨z, vs, rfl, ?_, p2.back st1.fr.live, fun hr j r' w a1 a2 a3 => ?_⟩⟩⟩
  · exact p1.step (fun a ha => (own_live S (st1.ownSub ha)).2) st2
  · obtain ⟨p', rfl, hn⟩ := p2.new a1 a2 a3
    rw [hr] at p1
    obtain ⟨p, o, rfl, _, hh, _⟩ := p1
    intro e
    cases e
    rw [hn] at hh; cases hh
theorem par_stp {F H F' H' : Hp} {σ0 : L2.St} {env0 : Env} : ∀ {is : List Nat} {rs : List DF} {vs : List V} {σ : L2.St} {env env2 : Env}, Stp R F H σ0 env0 F' H' σ env → VsOk R H F' H' rs vs →
    (∀ (j : Nat) (r : DF) (p : Addr), rs[j]? = some r → r.2 = true → vs[j]? = some (V.ref p) → ¬ Own σ env p) → parL is rs env = .ok env2 → is.length = vs.length ∧ Stp R F H σ0 env0 F' H' (setL σ is vs) env2
  | [], [], vs, σ, env, env2, st, h, no, e => by
    cases h
    simp only [parL] at e
    cases e
    exact ⟨rfl, st⟩
  | [], _ :: _, vs, σ, env, env2, st, h, no, e => by simp [parL] at e
  | _ :: _, [], vs, σ, env, env2, st, h, no, e => by simp [parL] at e
  | i :: is, r :: rs, vs, σ, env, env2, st, h, no, e => by
    obtain ⟨v, vs', rfl, h1, h2, h3⟩ := h
    simp only [parL] at e
    obtain ⟨d, fr⟩ := r
    have hp : Stp R F H σ0 env0 F' H' (σ.set i (some v)) (put env i (some (if fr then .o else .f, d))) := by
      refine st.put ?_
      cases fr with
      | false => exact .inl ⟨rfl, h1⟩
      | true =>
        obtain ⟨p, o, rfl, e2, e3, e4, e5⟩ := h1
        exact .inr ⟨rfl, p, o, rfl, e2, e3, e4, e5, no 0 _ p rfl rfl rfl⟩
    obtain ⟨a, b⟩ := par_stp hp h2 (fun j r' p e1 e2 e3 ho => by
      obtain ⟨jj, k, d', q, hk, hs⟩ := ho
      rcases at_put q with ⟨x, y⟩ | ⟨x, y⟩
      · subst x
        cases fr with
        | false => cases y; exact hk rfl
        | true =>
          have hi : i < σ.length := by
            have := at_lt q
            rw [put_length] at this
            exact Nat.lt_of_lt_of_le this st.rep.len
          rw [List.getElem?_set] at hs
          simp [hi] at hs
          exact h3 rfl j r' _ e1 e2 e3 hs.symm
      · rw [List.getElem?_set] at hs
        simp [x] at hs
        exact no (j + 1) r' p (by simpa using e1) e2 (by simpa using e3) ⟨jj, k, d', y, hk, hs⟩) e
    exact ⟨by simp [a], b⟩
def nmsB (T : Ck) (sc : Scope) : List Nat → List Expr → Bool
  | [], es => es.isEmpty
  | i :: is, es => match es with
    | .Name x _ :: r => decide (T.N[i]? = some x) && locB sc (fun _ => true) x && nmsB T sc is r
    | _ => false
theorem pgs_nms (A : AtD R T G n C sc) : ∀ {is : List Nat} {es : List Expr}, nmsB T sc is es = true → PGs C es (fun vs σ H Q => is.length = vs.length ∧ Q (setL σ is vs) H)
  | [], es, h => by
    cases es with
    | nil =>
      refine pgs_nil.imp fun vs σ H Q ⟨h, q⟩ => ?_
      cases vs with
      | nil => exact ⟨rfl, q⟩
      | cons _ _ => simp at h
    | cons _ _ => cases h
  | i :: is, es, h => by
    unfold nmsB at h
    split at h
    · obtain ⟨h, h3⟩ := and2 h
      obtain ⟨h1, h2⟩ := and2 h
      obtain ⟨l1, l2⟩ := A.at_.loc h2
      refine (pgs_cons (pg_name A.at_.nd (by rw [A.at_.N]; exact of_decide_eq_true h1) l1 l2) (pgs_nms A h3) rfl).imp fun vs σ H Q ⟨h, q⟩ => ?_
      cases vs with
      | nil => simp at h
      | cons v vs => exact ⟨v, vs, rfl, by simpa using h, q⟩
    · cases h
theorem nms_star {T : Ck} {sc : Scope} : ∀ {is : List Nat} {es : List Expr}, nmsB T sc is es = true → es.all notStar = true ∧ es.length = is.length
  | [], es, h => by
    cases es with
    | nil => exact ⟨rfl, rfl⟩
    | cons _ _ => cases h
  | i :: is, es, h => by
    unfold nmsB at h
    split at h
    · obtain ⟨a, b⟩ := nms_star (and2 h).2
      exact ⟨by rw [List.all_cons, a]; rfl, by simp [b]⟩
    · cases h
/-- behind the values: the slots in a row -/
theorem par_go {is : List Nat} {es : List X} : ∀ E σ H, rS R G (.par is es) E σ H → rPs R G es σ H fun vs H1 => is.length = vs.length ∧ vs.length ≤ sizeLine ∧ E.nx (setL σ is vs) H1 ∧ ∀ p o, H1 p = none → E.nx (setL σ is vs) (upd H1 p o) := fun E σ H ⟨F, env, o, S, e, q⟩ => by
  simp only [evS] at e
  obtain ⟨⟨rs, e1⟩, h1, e⟩ := Res.bind_ok e
  split at e
  case isFalse => cases e
  rename_i hz
  obtain ⟨e2, h2, e⟩ := Res.bind_ok e
  cases e
  refine ⟨F, env, rs, e1, S, h1, fun vs F' H' st ok => ?_⟩
  have nop : ∀ (j : Nat) (r : DF) (p : Addr), rs[j]? = some r → r.2 = true → vs[j]? = some (V.ref p) → ¬ Own σ e1 p := fun j r p a b c ho => by
    obtain ⟨p', e, hn⟩ := ok.new a b c
    cases e
    obtain ⟨_, u, e⟩ := own_live S (st.ownSub ho)
    rw [hn] at e; cases e
  obtain ⟨hl, st2⟩ := par_stp st.stp ok nop h2
  refine ⟨hl, by rw [ok.length, ← line_eq]; exact hz, q F' H' _ st2, fun p o hp => ?_⟩
  have st' := st.poke (o := o) S (none_of_live (st.fr.live p) hp) (st.rep.le.none hp)
  obtain ⟨_, st3⟩ := par_stp st'.stp (ok.poke hp) nop h2
  exact q F' _ _ st3
theorem ps_parAny (A : AtD R T G n C sc) {is : List Nat} {es : List X} {ts vs : List Expr} {kt k2 : Nat} {pt pt2 pos : Pos} (hn : nmsB T sc is ts = true) (ha : PA C vs (rPs R G es)) (hw : swappedStores [.Tuple ts kt pt] (.Tuple vs k2 pt2) C.env = pure none) :
    PS C (.Assign [.Tuple ts kt pt] (.Tuple vs k2 pt2) pos) (rS R G (.par is es)) := by
  obtain ⟨s1, s2⟩ := nms_star hn
  obtain ⟨l1, l2⟩ := each_len (env := C.env) s1
  refine (ps_asg (pe_tup ha) (pg_tup (n := ts.length) A.at_.calm (pgs_nms A hn) l1 l2) rfl hw).imp fun E σ H h => ?_
  obtain ⟨F, env, rs, e1, S, h1, q⟩ := par_go E σ H h
  refine ⟨F, env, rs, e1, S, h1, fun xs F' H' st ok => ?_⟩
  obtain ⟨a, b, c, d⟩ := q xs F' H' st ok
  exact ⟨b, fun p hp => ⟨p, xs, rfl, SqT.of upd_same, by rw [s2, a], a, d p _ hp⟩⟩
theorem ps_par2 (A : AtD R T G n C sc) {i j : Nat} {es : List X} {x y : Str} {px py pt pt2 pos : Pos} {kt k2 : Nat} {a b : Expr} (hij : i ≠ j) (hi : T.N[i]? = some x) (hj : T.N[j]? = some y) (hx : sc.names.lookup x = some .local) (hy : sc.names.lookup y = some .local) (ha : PA C [a, b] (rPs R G es))
    (hw : swappedStores [.Tuple [.Name x px, .Name y py] kt pt] (.Tuple [a, b] k2 pt2) C.env = pure (some [x, y])) :
    PS C (.Assign [.Tuple [.Name x px, .Name y py] kt pt] (.Tuple [a, b] k2 pt2) pos) (rS R G (.par [i, j] es)) := by
  refine (ps_par A.at_.calm A.at_.nd (by rw [A.at_.N]; exact hi) (by rw [A.at_.N]; exact hj) hij (by rw [A.at_.sc]; exact hx) (by rw [A.at_.sc]; exact hy) ha hw rfl).imp fun E σ H h => ?_
  obtain ⟨F, env, rs, e1, S, h1, q⟩ := par_go E σ H h
  refine ⟨F, env, rs, e1, S, h1, fun xs F' H' st ok => ?_⟩
  obtain ⟨a, b, c, d⟩ := q xs F' H' st ok
  match xs, a, c with
  | [u, v], _, c => exact ⟨u, v, rfl, c⟩
theorem ps_par3' (A : AtD R T G n C sc) {i j l : Nat} {es : List X} {x y z : Str} {px py pz pt pt2 pos : Pos} {kt k2 : Nat} {a b c : Expr} (hij : i ≠ j) (hil : i ≠ l) (hjl : j ≠ l) (hi : T.N[i]? = some x) (hj : T.N[j]? = some y) (hl : T.N[l]? = some z) (hx : sc.names.lookup x = some .local) (hy : sc.names.lookup y = some .local) (hz : sc.names.lookup z = some .local) (ha : PA C [a, b, c] (rPs R G es))
    (hw : swappedStores [.Tuple [.Name x px, .Name y py, .Name z pz] kt pt] (.Tuple [a, b, c] k2 pt2) C.env = pure (some [x, y, z])) :
    PS C (.Assign [.Tuple [.Name x px, .Name y py, .Name z pz] kt pt] (.Tuple [a, b, c] k2 pt2) pos) (rS R G (.par [i, j, l] es)) := by
  refine (ps_par3 A.at_.calm A.at_.nd (by rw [A.at_.N]; exact hi) (by rw [A.at_.N]; exact hj) (by rw [A.at_.N]; exact hl) hij hil hjl (by rw [A.at_.sc]; exact hx) (by rw [A.at_.sc]; exact hy) (by rw [A.at_.sc]; exact hz) ha hw rfl).imp fun E σ H h => ?_
  obtain ⟨F, env, rs, e1, S, h1, q⟩ := par_go E σ H h
  refine ⟨F, env, rs, e1, S, h1, fun xs F' H' st ok => ?_⟩
  obtain ⟨a, b, c, d⟩ := q xs F' H' st ok
  match xs, a, c with
  | [u, v, w], _, c => exact ⟨u, v, w, rfl, c⟩
/-! ### in which order the stores go -/
def locE (sc : Scope) : Expr → Bool
  | .Name x _ => sc.names.lookup x == some .local
  | _ => false
/-- the stores go in the text's order -/
def swNone (sc : Scope) (ts vs : List Expr) : Bool := !(ts.length == 2 || ts.length == 3) || (ts.filter (locE sc)).length != ts.length
theorem filt_le {sc : Scope} {l : Nat} {C : Cx} (hk : C.env.scope = sc) : ∀ ts : List Expr, (ts.filterMap fun | .Name id pos => if C.env.kindOf id == some .local && pos.line == l then some id else none | _ => none).length ≤ (ts.filter (locE sc)).length
  | [] => Nat.le_refl _
  | t :: ts => by
    have ih := filt_le (l := l) hk ts
    rw [List.filterMap_cons, List.filter_cons]
    cases t with
    | Name id pos =>
      have ek : C.env.kindOf id = sc.names.lookup id := by unfold PySem.Env.kindOf; rw [hk]
      simp only [ek]
      by_cases h1 : (sc.names.lookup id == some NameKind.local) = true
      · rw [if_pos (show locE sc (.Name id pos) = true from h1)]
        by_cases h2 : (pos.line == l) = true
        · simp only [h1, h2, Bool.and_self, if_true, List.length_cons]
          omega
        · simp only [h1, h2, Bool.true_and, if_false, List.length_cons, Bool.false_eq_true]
          omega
      · rw [if_neg (show ¬ locE sc (.Name id pos) = true from h1)]
        simp only [h1, Bool.false_and, if_false, Bool.false_eq_true]
        exact ih
    | _ => simpa [locE] using ih
theorem filt_lt {sc : Scope} : ∀ ts : List Expr, (ts.filter (locE sc)).length ≤ ts.length := fun ts => List.length_filter_le _ _
theorem sw_none {ts vs : List Expr} {kt k2 : Nat} {pt pt2 : Pos} (hk : C.env.scope = sc) (h : swNone sc ts vs = true) : swappedStores [.Tuple ts kt pt] (.Tuple vs k2 pt2) C.env = pure none := by
  unfold swappedStores
  simp only [pure_bind]
  split
  · rfl
  · rename_i h1
    split
    · rfl
    · split
      · rfl
      · rename_i h3
        exfalso
        simp only [Bool.or_eq_true, not_or, bne_iff_ne, ne_eq, Decidable.not_not] at h1 h3
        unfold swNone at h
        rw [Bool.or_eq_true] at h
        rcases h with h | h
        · exact h1.1.1 h
        · have a := filt_le (l := (Option.map (fun x => x.pos.line) ts.head?).getD 0) hk ts
          have b := filt_lt (sc := sc) ts
          simp only [bne_iff_ne, ne_eq] at h
          exact h (Nat.le_antisymm b (Nat.le_trans (Nat.le_of_eq h3.1.symm) a))
/-- two names, three names: the stores go from the right -/
def swSome (sc : Scope) (ts vs : List Expr) : Option (List Str) := match ts with
  | [.Name x px, .Name y py] => if sc.names.lookup x == some .local && sc.names.lookup y == some .local && py.line == px.line && !(x == y) && !(vs.all (foldedForSure 8)) && !(vs.all (constantsAlone 8)) then some [x, y] else none
  | [.Name x px, .Name y py, .Name z pz] => if sc.names.lookup x == some .local && sc.names.lookup y == some .local && sc.names.lookup z == some .local && py.line == px.line && pz.line == px.line && !(x == y) && !(x == z) && !(y == z) && !(vs.all (foldedForSure 8)) && !(vs.all (constantsAlone 8)) then some [x, y, z] else none
  | _ => none
theorem noStar_any {vs : List Expr} (h : vs.all notStar = true) : (vs.any fun | .Starred .. => true | _ => false) = false := by
  rw [List.any_eq_false]
  intro e he
  have := List.all_eq_true.mp h e he
  cases e <;> first | (simp; done) | cases this
def nm1 (C : Cx) (l : Nat) : Expr → Option Str
  | .Name id pos => if C.env.kindOf id == some .local && pos.line == l then some id else none
  | _ => none
theorem sw_two (A : AtD R T G n C sc) {x y : Str} {px py pt pt2 : Pos} {kt k2 : Nat} {a b : Expr} (hs : [a, b].all notStar = true) (h : (swSome sc [.Name x px, .Name y py] [a, b]).isSome = true) :
    sc.names.lookup x = some .local ∧ sc.names.lookup y = some .local ∧ swappedStores [.Tuple [.Name x px, .Name y py] kt pt] (.Tuple [a, b] k2 pt2) C.env = pure (some [x, y]) := by
  unfold swSome at h
  simp only at h
  split at h
  case isFalse => cases h
  rename_i hh
  simp only [Bool.and_eq_true, Bool.not_eq_true'] at hh
  obtain ⟨⟨⟨⟨⟨h1, h2⟩, h3⟩, h4⟩, h5⟩, h6⟩ := hh
  have h1 := eq_of_beq h1
  have h2 := eq_of_beq h2
  have e1 : C.env.kindOf x = some NameKind.local := by unfold PySem.Env.kindOf; rw [A.at_.sc]; exact h1
  have e2 : C.env.kindOf y = some NameKind.local := by unfold PySem.Env.kindOf; rw [A.at_.sc]; exact h2
  have bk := eq_of_beq (kind_block A)
  have h3 : py.line = px.line := eq_of_beq h3
  have ne : (x == y) = false := h4
  have ne2 : (y == x) = false := by
    rw [beq_eq_false_iff_ne] at h4 ⊢
    exact fun z => h4 z.symm
  have hxy : x ≠ y := by rw [beq_eq_false_iff_ne] at h4; exact h4
  refine ⟨h1, h2, ?_⟩
  have hn : ([Expr.Name x px, Expr.Name y py].filterMap (nm1 C px.line)) = [x, y] := by
    simp [List.filterMap_cons, nm1, e1, e2, h3]
  have hd : ([x, y] : List Str).eraseDups = [x, y] := by
    simp [List.eraseDups_cons, hxy, Ne.symm hxy, ne2]
  unfold swappedStores
  simp only [pure_bind]
  rw [if_neg (by simp [bk])]
  split
  · rename_i hst
    exact absurd (hst.symm.trans (noStar_any hs)) (by decide)
  · show (if (([Expr.Name x px, Expr.Name y py].filterMap (nm1 C px.line)).length != [Expr.Name x px, Expr.Name y py].length || ([Expr.Name x px, Expr.Name y py].filterMap (nm1 C px.line)).eraseDups.length != ([Expr.Name x px, Expr.Name y py].filterMap (nm1 C px.line)).length) = true then pure none else if ([a, b].all (foldedForSure 8)) = true then pure none else if ([a, b].all (constantsAlone 8)) = true then (do unsupported "assign.tuple-of-constant-expressions:order-of-the-stores"; pure (some ([Expr.Name x px, Expr.Name y py].filterMap (nm1 C px.line)))) else pure (some ([Expr.Name x px, Expr.Name y py].filterMap (nm1 C px.line)))) = _
    rw [hn, hd, h5, h6]
    rfl
theorem sw_three (A : AtD R T G n C sc) {x y z : Str} {px py pz pt pt2 : Pos} {kt k2 : Nat} {a b c : Expr} (hs : [a, b, c].all notStar = true) (h : (swSome sc [.Name x px, .Name y py, .Name z pz] [a, b, c]).isSome = true) :
    sc.names.lookup x = some .local ∧ sc.names.lookup y = some .local ∧ sc.names.lookup z = some .local ∧ swappedStores [.Tuple [.Name x px, .Name y py, .Name z pz] kt pt] (.Tuple [a, b, c] k2 pt2) C.env = pure (some [x, y, z]) := by
  unfold swSome at h
  simp only at h
  split at h
  case isFalse => cases h
  rename_i hh
  simp only [Bool.and_eq_true, Bool.not_eq_true'] at hh
  obtain ⟨⟨⟨⟨⟨⟨⟨⟨⟨h1, h2⟩, h0⟩, h3⟩, h3'⟩, h4⟩, h4'⟩, h4''⟩, h5⟩, h6⟩ := hh
  have h1 := eq_of_beq h1
  have h2 := eq_of_beq h2
  have h0 := eq_of_beq h0
  have e1 : C.env.kindOf x = some NameKind.local := by unfold PySem.Env.kindOf; rw [A.at_.sc]; exact h1
  have e2 : C.env.kindOf y = some NameKind.local := by unfold PySem.Env.kindOf; rw [A.at_.sc]; exact h2
  have e0 : C.env.kindOf z = some NameKind.local := by unfold PySem.Env.kindOf; rw [A.at_.sc]; exact h0
  have bk := eq_of_beq (kind_block A)
  have h3 : py.line = px.line := eq_of_beq h3
  have h3' : pz.line = px.line := eq_of_beq h3'
  have hxy : x ≠ y := by rw [beq_eq_false_iff_ne] at h4; exact h4
  have hxz : x ≠ z := by rw [beq_eq_false_iff_ne] at h4'; exact h4'
  have hyz : y ≠ z := by rw [beq_eq_false_iff_ne] at h4''; exact h4''
  refine ⟨h1, h2, h0, ?_⟩
  have hn : ([Expr.Name x px, Expr.Name y py, Expr.Name z pz].filterMap (nm1 C px.line)) = [x, y, z] := by
    simp [List.filterMap_cons, nm1, e1, e2, e0, h3, h3']
  have hd : ([x, y, z] : List Str).eraseDups = [x, y, z] := by
    simp [List.eraseDups_cons, hxy, hxz, hyz, Ne.symm hxy, Ne.symm hxz, Ne.symm hyz]
  unfold swappedStores
  simp only [pure_bind]
  rw [if_neg (by simp [bk])]
  split
  · rename_i hst
    exact absurd (hst.symm.trans (noStar_any hs)) (by decide)
  · show (if (([Expr.Name x px, Expr.Name y py, Expr.Name z pz].filterMap (nm1 C px.line)).length != [Expr.Name x px, Expr.Name y py, Expr.Name z pz].length || ([Expr.Name x px, Expr.Name y py, Expr.Name z pz].filterMap (nm1 C px.line)).eraseDups.length != ([Expr.Name x px, Expr.Name y py, Expr.Name z pz].filterMap (nm1 C px.line)).length) = true then pure none else if ([a, b, c].all (foldedForSure 8)) = true then pure none else if ([a, b, c].all (constantsAlone 8)) = true then (do unsupported "assign.tuple-of-constant-expressions:order-of-the-stores"; pure (some ([Expr.Name x px, Expr.Name y py, Expr.Name z pz].filterMap (nm1 C px.line)))) else pure (some ([Expr.Name x px, Expr.Name y py, Expr.Name z pz].filterMap (nm1 C px.line)))) = _
    rw [hn, hd, h5, h6]
    rfl
end
end PK
end
section
set_option Elab.async false
set_option linter.all false
set_option maxRecDepth 100000
set_option maxHeartbeats 4000000
/-! PkAll: every statement that the checker passes; every def. -/
namespace PK
open PySem PySem.Spec PyProof.Rows L2
def isCompX : X → Bool
  | .comp _ _ _ _ => true
  | _ => false
mutual
def ckS (T : Ck) : S → Scope → Stmt → Bool
  | .set t e, sc, st => match st with
    | .Assign [tg] v pos => ckG T sc (fun _ => true) t tg && ckX T e sc (fun _ => true) v && (match tg with
      | .Name y p => (match v with
        | .ListComp _ _ scope vp => !(sc.names.lookup y == some .local && p.line == vp.line && !(scope.names.any fun (m, k) => m == y && (k == .local || k == .cell))) || isCompX e
        | v => notComp v)
      | .Tuple _ _ _ => notTup v
      | _ => false)
    | _ => false
  | .par is es, sc, st => match st with
    | .Assign [.Tuple ts _ _] (.Tuple vs _ _) _ => nmsB T sc is ts && decide is.Nodup && vs.all notStar && ckXs T es sc (fun _ => true) vs && (match ts, vs with
      | [_, _], [_, _] => swNone sc ts vs || (swSome sc ts vs).isSome
      | [_, _, _], [_, _, _] => swNone sc ts vs || (swSome sc ts vs).isSome
      | _, _ => swNone sc ts vs)
    | _ => false
  | .setIx i k e, sc, st => match st with
    | .Assign [.Subscript l ke _] v _ => ckV T sc i l && notSlice ke && ckX T k sc (fun _ => true) ke && ckX T e sc (fun _ => true) v
    | _ => false
  | .app i e, sc, st => match st with
    | .Expr (.Call (.Attribute l nm apos) [a] [] cpos) _ => decide (nm = ("append" : Str)) && ckV T sc i l && notCall0 l && notStar a && (apos.endLine == cpos.line) && ckX T e sc (fun _ => true) a
    | _ => false
  | .ex e, sc, st => match st with
    | .Expr v _ => notComp v && ckX T e sc (fun _ => true) v
    | _ => false
  | .ret e, sc, st => match st with
    | .Return (some v) _ => ckX T e sc (fun _ => true) v
    | .Return none _ => isNo e
    | _ => false
  | .iff c a b, sc, st => match st with
    | .If t as bs _ => ckX T c sc (fun _ => true) t && ckSs T a sc as && ckSs T b sc bs
    | _ => false
  | .whl c b, sc, st => match st with
    | .While t bs [] _ => ckX T c sc (fun _ => true) t && ckSs T b sc bs
    | _ => false
  | .fr t it b, sc, st => match st with
    | .For tg ie bs [] _ => ckG T sc (fun _ => true) t tg && notSet ie && ckI T it sc (fun _ => true) tg ie && ckSs T b sc bs
    | _ => false
  | .pass, _, st => match st with
    | .Pass _ => true
    | _ => false
  | .brk, _, st => match st with
    | .Break _ => true
    | _ => false
  | .cnt, _, st => match st with
    | .Continue _ => true
    | _ => false
  | .raise _ _, _, _ => true
  | .setF _ _, _, _ => true
def ckSs (T : Ck) : List S → Scope → List Stmt → Bool
  | [], _, sts => sts.isEmpty
  | s :: ss, sc, sts => match sts with
    | st :: r => ckS T s sc st && ckSs T ss sc r
    | [] => false
end
section
variable {R : RCx} {T : Ck} {G : PK.Gl} {n : Nat} {C : Cx} {sc : Scope}
theorem pI (A : AtD R T G n C sc) {it : X} {tg ie : Expr} (h7 : ckI T it sc (fun _ => true) tg ie = true) : PI C tg ie (rI R G it) := by
  unfold ckI at h7
  split at h7
  · split at h7
    · rename_i x p as pos
      obtain ⟨h7, k5⟩ := and2 h7
      obtain ⟨h7, k4⟩ := and2 h7
      obtain ⟨h7, k3⟩ := and2 h7
      obtain ⟨k1, k2⟩ := and2 h7
      have k1 := of_decide_eq_true k1
      subst k1
      exact pi_rng A.at_ (of_decide_eq_true k2) k3 k4 (pXs A.io _ A.at_ k5 k4).1 (ckXs_len k5)
    · cases h7
  · obtain ⟨k0, h7⟩ := and2 h7
    split at h7
    · rename_i x p l r pos
      obtain ⟨h7, k7⟩ := and2 h7
      obtain ⟨h7, k6⟩ := and2 h7
      obtain ⟨h7, k5⟩ := and2 h7
      obtain ⟨h7, k4⟩ := and2 h7
      obtain ⟨h7, k3⟩ := and2 h7
      obtain ⟨k1, k2⟩ := and2 h7
      have k1 := of_decide_eq_true k1
      subst k1
      exact pi_zipD A.at_ k0 (of_decide_eq_true k2) k3 k4 k5 (pX A.io _ A.at_ k6).1.toF (pX A.io _ A.at_ k7).1.toF
    · cases h7
  · obtain ⟨k0, h7⟩ := and2 h7
    split at h7
    · rename_i x p l pos
      obtain ⟨h7, k5⟩ := and2 h7
      obtain ⟨h7, k4⟩ := and2 h7
      obtain ⟨h7, k3⟩ := and2 h7
      obtain ⟨k1, k2⟩ := and2 h7
      have k1 := of_decide_eq_true k1
      subst k1
      exact pi_enumD A.at_ k0 (of_decide_eq_true k2) k3 k4 (pX A.io _ A.at_ k5).1.toF
    · cases h7
  · exact pi_val A.at_ (pX A.io it A.at_ h7).1.toF
theorem pPs (A : AtD R T G n C sc) : ∀ {xs : List X} {es : List Expr}, ckXs T xs sc (fun _ => true) es = true → es.all notStar = true → PA C es (rPs R G xs)
  | [], [], _, _ => pps_nil
  | [], _ :: _, h, _ => by unfold ckXs at h; cases h
  | _ :: _, [], h, _ => by unfold ckXs at h; cases h
  | x :: xs, e :: es, h, hs => by
    unfold ckXs at h
    obtain ⟨h1, h2⟩ := and2 h
    rw [List.all_cons, Bool.and_eq_true] at hs
    exact pps_cons hs.1 (pX A.io x A.at_ h1).1 (pPs A h2 hs.2)
theorem pS_set (A : AtD R T G n C sc) {t : Tg} {e : X} {st : Stmt} (h : ckS T (.set t e) sc st = true) : PS C st (rS R G (.set t e)) := by
  unfold ckS at h
  split at h
  case h_2 => cases h
  rename_i tg v pos
  replace h := and2 h
  obtain ⟨h, h3⟩ := h
  replace h := and2 h
  obtain ⟨h1, h2⟩ := h
  split at h3
  · rename_i y p
    obtain ⟨i, rfl⟩ : ∃ i, t = .nm i := by
      cases t with
      | nm i => exact ⟨i, rfl⟩
      | tp ts => unfold ckG at h1; cases h1
    split at h3
    · rename_i el gens scope vp
      by_cases hw : (sc.names.lookup y == some NameKind.local && p.line == vp.line && !(scope.names.any fun (m, k) => m == y && (k == .local || k == .cell))) = true
      · rw [hw] at h3
        -- the new list is stored ahead of what the comprehension lets go
        cases e with
        | comp tt it ifs elt =>
          have h2' := h2
          unfold ckX at h2
          split at h2
          case h_2 => cases h2
          rename_i el' tg' ie ifE scope' pos' heq
          cases heq
          replace hw := and2 hw
          obtain ⟨hw, w3⟩ := hw
          replace hw := and2 hw
          obtain ⟨w1, w2⟩ := hw
          replace h2 := and2 h2
          obtain ⟨h2, k7⟩ := h2
          replace h2 := and2 h2
          obtain ⟨h2, k6⟩ := h2
          replace h2 := and2 h2
          obtain ⟨h2, k5⟩ := h2
          replace h2 := and2 h2
          obtain ⟨h2, k4⟩ := h2
          replace h2 := and2 h2
          obtain ⟨h2, k3⟩ := h2
          replace h2 := and2 h2
          obtain ⟨k1, k2⟩ := h2
          have h1' := h1
          unfold ckG at h1
          replace h1 := and2 h1
          obtain ⟨g1, g2⟩ := h1
          have hts : ∀ {C' : Cx}, At R T G n C' (relS scope sc) (ownB scope) → PTs C' ifE (rTs R G ifs) := fun {C'} A' => by
            have hl := of_decide_eq_true k4
            match ifs, ifE, k5, hl with
            | [], [], _, _ => exact pts_nil'
            | [y], [e1], h5, _ =>
              unfold ckXs at h5
              exact pts_one' (pX A.io y A' (and2 h5).1).2
            | [], _ :: _, h5, _ => unfold ckXs at h5; cases h5
            | _ :: _, [], h5, _ => unfold ckXs at h5; cases h5
            | _ :: _ :: _, [_], h5, _ =>
              unfold ckXs at h5
              have := (and2 h5).2
              unfold ckXs at this
              cases this
            | _, _ :: _ :: _, _, hl => simp at hl
          have hI : ckI T it sc (fun _ => true) tg' ie = true := by
            unfold ckI
            exact k7
          exact ps_setLc' A (of_decide_eq_true g1) (eq_of_beq w1) (by rw [w2, w3]; rfl) k1 k2 k3 (pI A hI) hts fun A' => (pX A.io elt A' k6).1.toF
        | _ => simp [isCompX] at h3
      · refine ps_setNm A h1 (pX A.io e A.at_ h2).1 ?_
        have hw' : (sc.names.lookup y == some NameKind.local && p.line == vp.line && !(scope.names.any fun (m, k) => m == y && (k == .local || k == .cell))) = false := eq_false_of_ne_true hw
        show pure (C.env.blockKind == .function && C.env.kindOf y == some .local && p.line == vp.line && !(scope.names.any fun (m, k) => m == y && (k == .local || k == .cell))) = _
        rw [kind_block A, show (C.env.kindOf y == some NameKind.local) = (sc.names.lookup y == some NameKind.local) from by unfold PySem.Env.kindOf; rw [A.at_.sc], Bool.true_and, hw']
    · exact ps_setNm A h1 (pX A.io e A.at_ h2).1 (swaps_not h3)
  · rename_i es k p
    obtain ⟨ts, rfl⟩ : ∃ ts, t = .tp ts := by
      cases t with
      | tp ts => exact ⟨ts, rfl⟩
      | nm i => unfold ckG at h1; cases h1
    exact ps_setTp A h1 (pX A.io e A.at_ h2).1 h3
  · cases h3
theorem pS_par (A : AtD R T G n C sc) {is : List Nat} {es : List X} {st : Stmt} (h : ckS T (.par is es) sc st = true) : PS C st (rS R G (.par is es)) := by
  unfold ckS at h
  split at h
  case h_2 => cases h
  rename_i ts kt pt vs k2 pt2 pos
  replace h := and2 h
  obtain ⟨h, h5⟩ := h
  replace h := and2 h
  obtain ⟨h, h4⟩ := h
  replace h := and2 h
  obtain ⟨h, h3⟩ := h
  replace h := and2 h
  obtain ⟨h1, h2⟩ := h
  have h2 := of_decide_eq_true h2
  have pa := pPs A h4 h3
  cases hw : swNone sc ts vs with
  | true => exact ps_parAny A h1 pa (sw_none A.at_.sc hw)
  | false =>
    rw [hw] at h5
    split at h5
    · rename_i t1 t2 v1 v2
      simp only [Bool.false_or] at h5
      obtain ⟨x, px, y, py, rfl, rfl⟩ : ∃ x px y py, t1 = .Name x px ∧ t2 = .Name y py := by
        cases t1 <;> first | (simp [swSome] at h5; done) | skip
        cases t2 <;> first | (simp [swSome] at h5; done) | skip
        exact ⟨_, _, _, _, rfl, rfl⟩
      match is, h1, h2 with
      | [i, j], h1, h2 =>
        unfold nmsB at h1
        replace h1 := and2 h1
        obtain ⟨h1, m1⟩ := h1
        replace h1 := and2 h1
        obtain ⟨m2, m3⟩ := h1
        unfold nmsB at m1
        replace m1 := and2 m1
        obtain ⟨m1, m4⟩ := m1
        replace m1 := and2 m1
        obtain ⟨m5, m6⟩ := m1
        obtain ⟨l1, l2, l3⟩ := sw_two (kt := kt) (k2 := k2) (pt := pt) (pt2 := pt2) A h3 h5
        have hij : i ≠ j := by simpa using h2
        exact ps_par2 A hij (of_decide_eq_true m2) (of_decide_eq_true m5) l1 l2 pa l3
      | [], h1, _ => simp [nmsB] at h1
      | [_], h1, _ => simp [nmsB] at h1
      | _ :: _ :: _ :: _, h1, _ => simp [nmsB] at h1
    · rename_i t1 t2 t3 v1 v2 v3
      simp only [Bool.false_or] at h5
      obtain ⟨x, px, y, py, z, pz, rfl, rfl, rfl⟩ : ∃ x px y py z pz, t1 = .Name x px ∧ t2 = .Name y py ∧ t3 = .Name z pz := by
        cases t1 <;> first | (simp [swSome] at h5; done) | skip
        cases t2 <;> first | (simp [swSome] at h5; done) | skip
        cases t3 <;> first | (simp [swSome] at h5; done) | skip
        exact ⟨_, _, _, _, _, _, rfl, rfl, rfl⟩
      match is, h1, h2 with
      | [i, j, l], h1, h2 =>
        unfold nmsB at h1
        replace h1 := and2 h1
        obtain ⟨h1, m1⟩ := h1
        replace h1 := and2 h1
        obtain ⟨m2, m3⟩ := h1
        unfold nmsB at m1
        replace m1 := and2 m1
        obtain ⟨m1, m4⟩ := m1
        replace m1 := and2 m1
        obtain ⟨m5, m6⟩ := m1
        unfold nmsB at m4
        replace m4 := and2 m4
        obtain ⟨m4, m7⟩ := m4
        replace m4 := and2 m4
        obtain ⟨m8, m9⟩ := m4
        obtain ⟨l1, l2, l3, l4⟩ := sw_three (kt := kt) (k2 := k2) (pt := pt) (pt2 := pt2) A h3 h5
        have hd : (i ≠ j ∧ i ≠ l) ∧ j ≠ l := by simpa [not_or] using h2
        exact ps_par3' A hd.1.1 hd.1.2 hd.2 (of_decide_eq_true m2) (of_decide_eq_true m5) (of_decide_eq_true m8) l1 l2 l3 pa l4
      | [], h1, _ => simp [nmsB] at h1
      | [_], h1, _ => simp [nmsB] at h1
      | [_, _], h1, _ => simp [nmsB] at h1
      | _ :: _ :: _ :: _ :: _, h1, _ => simp [nmsB] at h1
    · cases h5
mutual
theorem pS (A : AtD R T G n C sc) : ∀ (s : S) {st : Stmt}, ckS T s sc st = true → PS C st (rS R G s)
  | .set t e, st, h => pS_set A h
  | .par is es, st, h => pS_par A h
  | .setIx i k e, st, h => by
    unfold ckS at h
    split at h
    · obtain ⟨h, h4⟩ := and2 h
      obtain ⟨h, h3⟩ := and2 h
      obtain ⟨h1, h2⟩ := and2 h
      exact ps_setIx' A h1 h2 (pX A.io k A.at_ h3).1.toF (pX A.io e A.at_ h4).1.toF
    · cases h
  | .app i e, st, h => by
    unfold ckS at h
    split at h
    · obtain ⟨h, h6⟩ := and2 h
      obtain ⟨h, h5⟩ := and2 h
      obtain ⟨h, h4⟩ := and2 h
      obtain ⟨h, h3⟩ := and2 h
      obtain ⟨h1, h2⟩ := and2 h
      have h1 := of_decide_eq_true h1
      subst h1
      exact ps_app' A h2 h3 h4 h5 (pX A.io e A.at_ h6).1.toF
    · cases h
  | .ex e, st, h => by
    unfold ckS at h
    split at h
    · obtain ⟨h1, h2⟩ := and2 h
      exact ps_ex' h1 (pX A.io e A.at_ h2).1
    · cases h
  | .ret e, st, h => by
    unfold ckS at h
    split at h
    · exact ps_ret' A h
    · cases e <;> first | exact ps_retNo | cases h
    · cases h
  | .iff c a b, st, h => by
    unfold ckS at h
    split at h
    · obtain ⟨h, h3⟩ := and2 h
      obtain ⟨h1, h2⟩ := and2 h
      exact ps_if' (pX A.io c A.at_ h1).2 (pSs A a h2) (pSs A b h3)
    · cases h
  | .whl c b, st, h => by
    unfold ckS at h
    split at h
    · obtain ⟨h1, h2⟩ := and2 h
      exact ps_whl' A (pX A.io c A.at_ h1).2 (pSs A b h2)
    · cases h
  | .fr t it b, st, h => by
    unfold ckS at h
    split at h
    · obtain ⟨h, h4⟩ := and2 h
      obtain ⟨h, h3⟩ := and2 h
      obtain ⟨h1, h2⟩ := and2 h
      exact ps_fr' A h1 h2 (pI A h3) (pSs A b h4)
    · cases h
  | .pass, st, h => by
    unfold ckS at h
    split at h
    · exact ps_pass'
    · cases h
  | .brk, st, h => by
    unfold ckS at h
    split at h
    · exact ps_brk'
    · cases h
  | .cnt, st, h => by
    unfold ckS at h
    split at h
    · exact ps_cnt'
    · cases h
  | .raise _ _, st, _ => ps_never.imp fun E σ H ⟨F, env, o, S, e, q⟩ => by
    simp only [evS] at e
    cases e
  | .setF _ _, st, _ => ps_never.imp fun E σ H ⟨F, env, o, S, e, q⟩ => by
    simp only [evS] at e
    cases e
theorem pSs (A : AtD R T G n C sc) : ∀ (ss : List S) {sts : List Stmt}, ckSs T ss sc sts = true → PSs C sts (rSs R G ss)
  | [], [], _ => pss_nil'
  | [], _ :: _, h => by unfold ckSs at h; cases h
  | _ :: _, [], h => by unfold ckSs at h; cases h
  | s :: ss, st :: sts, h => by
    unfold ckSs at h
    obtain ⟨h1, h2⟩ := and2 h
    exact pss_cons' (pS A s h1) (pSs A ss h2)
end
end
end PK
end
section
set_option Elab.async false
set_option linter.all false
set_option maxRecDepth 100000
set_option maxHeartbeats 4000000
/-! PkDef: every def keeps what the evaluator says of it. -/
namespace PK
open PySem PySem.Spec PyProof.Rows L2
/-- room that the long division wants -/
abbrev spare : Nat := 40
/-- a def of the text -/
structure FD where
  f : Nat
  x : Str
  ps : List Str
  N : List Str
  args : Arguments
  body : List Stmt
  scope : Scope
def fnsOf (fs : List FD) : List (Nat × Str) := fs.map fun d => (d.f, d.x)
/-- the text is the IR -/
def ckD (Tb : Tab) (fns : List (Nat × Str)) (free : List Str) (con : List (Str × D)) (d : FD) : Bool := match Tb.body d.f with
  | some df => ckSs ⟨d.N, fns, free, con, Tb.io⟩ df.body d.scope d.body && decide (df.np = d.ps.length) && decide (df.n = d.N.length) && decide (d.scope.kind = .function) && !d.scope.isCoroutine && !d.scope.isGenerator && decide d.N.Nodup && decide (d.N.take d.ps.length = d.ps) &&
      (d.ps.all fun x => match d.scope.names.lookup x with
        | some .local => true
        | some .cell => true
        | _ => false) && (d.scope.names.all fun y => !(y.2 == .free)) && (!df.io || decide (0 < d.ps.length))
  | none => false
/-- the parameters are given one by one -/
def plainA (d : FD) : Prop := ∀ (kV doc pm : Value) (an : Option Addr) (cdv ct : Value) (us : List Value), us.length = d.ps.length → bindArgs (PySem.W.fnOf d.x d.x d.args d.body d.scope .none kV doc pm an cdv ct) ⟨us, []⟩ = pure (d.ps.zip us)
/-- what the head tells -/
structure Told (R : RCx) (mg : Str → Option Value) (base : Heap) (fs : List FD) (free : List Str) (con : List (Str × D)) : Prop where
  seer : base.NoSeer
  tree : R.P.given.tree = none
  free : ∀ x, x ∈ free → mg x = none
  con : ∀ x d, con.lookup x = some d → ∃ u v, mg x = some u ∧ RelV v u ∧ ∀ F, Rep R F d v
  fn : ∀ d ∈ fs, ∃ a fd, mg d.x = some (.ref a) ∧ FunD R.K d.x d.x d.args d.body d.scope [] [] a fd
section
variable {R : RCx} {mg : Str → Option Value} {base : Heap} {fs : List FD} {free : List Str} {con : List (Str × D)} {Tb : Tab}
theorem ckD_scope {fns : List (Nat × Str)} {d : FD} (h : ckD Tb fns free con d = true) : FnScope d.N d.ps d.scope ∧ ∃ df, Tb.body d.f = some df ∧ ckSs ⟨d.N, fns, free, con, Tb.io⟩ df.body d.scope d.body = true ∧ df.np = d.ps.length ∧ df.n = d.N.length ∧ (df.io = true → 0 < d.ps.length) := by
  unfold ckD at h
  split at h
  case h_2 => cases h
  rename_i df hdf
  simp only [Bool.and_eq_true, decide_eq_true_eq, Bool.not_eq_true', List.all_eq_true, Bool.or_eq_true] at h
  obtain ⟨⟨⟨⟨⟨⟨⟨⟨⟨⟨h1, h2⟩, h3⟩, h4⟩, h5⟩, h6⟩, h7⟩, h8⟩, h9⟩, h10⟩, h11⟩ := h
  refine ⟨⟨h4, h5, h6, h7, h8, fun x hx => ?_, fun y hy e => ?_⟩, df, hdf, h1, h2, h3, fun hio => ?_⟩
  · have := h9 x hx
    split at this
    · rename_i e; exact .inl e
    · rename_i e; exact .inr e
    · cases this
  · have := h10 y hy
    rw [e] at this
    cases this
  · rcases h11 with h | h
    · rw [hio] at h; cases h
    · exact h
theorem at_map : ∀ {ds : List D} {m i : Nat} {k : Ow} {d : D}, at_ (ds.map (fun d => some (Ow.f, d)) ++ List.replicate m none) i = some (k, d) → k = .f ∧ ds[i]? = some d
  | [], m, i, k, d, h => by
    exfalso
    simp only [List.map_nil, List.nil_append] at h
    induction m generalizing i with
    | zero => simp [at_] at h
    | succ m ih =>
      cases i with
      | zero => simp [List.replicate_succ, at_] at h
      | succ i => exact ih (i := i) (by simpa [List.replicate_succ, at_] using h)
  | x :: ds, m, 0, k, d, h => by
    simp only [List.map_cons, List.cons_append, at_] at h
    cases h
    exact ⟨rfl, rfl⟩
  | x :: ds, m, i + 1, k, d, h => by
    have := at_map (ds := ds) (m := m) (i := i) (by simpa [at_] using h)
    exact ⟨this.1, by simpa using this.2⟩
theorem start_get {N : List Str} {vs : List V} {i : Nat} {v : V} (h : vs[i]? = some v) : (L2.start N vs)[i]? = some (some v) := by
  have hi := (List.getElem?_eq_some_iff.mp h).1
  unfold L2.start
  rw [List.getElem?_append_left (by simpa using hi), List.getElem?_map, h]
  rfl
/-- the names at a def's entry -/
theorem start_rep {F H : Hp} {N : List Str} {ds : List D} {vs : List V} {m : Nat} (l : Le F H) (h : RepL R F ds vs) (hm : ds.length + m ≤ N.length) : SRep R F H (L2.start N vs) (ds.map (fun d => some (Ow.f, d)) ++ List.replicate m none) ∧ ∀ a, ¬ Own (L2.start N vs) (ds.map (fun d => some (Ow.f, d)) ++ List.replicate m none) a := by
  have hl := h.length
  refine ⟨⟨l, ?_, fun i k d e => ?_, fun i j k l' d e a q1 n1 => ?_⟩, fun a ⟨i, k, d, e, hk, _⟩ => hk (at_map e).1⟩
  · unfold L2.start
    simp only [List.length_append, List.length_map, List.length_replicate]
    omega
  · obtain ⟨rfl, e2⟩ := at_map e
    obtain ⟨v, hv, rv⟩ := h.get e2
    exact ⟨v, start_get hv, rv⟩
  · exact absurd (at_map q1).1 n1
theorem start_io {F H : Hp} {N : List Str} {d0 : D} {ds : List D} {a0 : Addr} {o : HO} {vs : List V} {m : Nat} (l : Le F H) (hf : F a0 = none) (hh : H a0 = some o) (hc : CRep R F o d0) (h : RepL R F ds vs) (hm : ds.length + 1 + m ≤ N.length) :
    SRep R F H (L2.start N (.ref a0 :: vs)) ((some (Ow.io, d0) :: ds.map fun d => some (Ow.f, d)) ++ List.replicate m none) ∧ ∀ a, Own (L2.start N (.ref a0 :: vs)) ((some (Ow.io, d0) :: ds.map fun d => some (Ow.f, d)) ++ List.replicate m none) a ↔ a = a0 := by
  have hl := h.length
  have at1 : ∀ {i k d}, at_ ((some (Ow.io, d0) :: ds.map fun d => some (Ow.f, d)) ++ List.replicate m none) i = some (k, d) → (i = 0 ∧ k = .io ∧ d = d0) ∨ (k = .f ∧ ∃ j, i = j + 1 ∧ ds[j]? = some d) := fun {i k d} e => by
    cases i with
    | zero => simp only [List.cons_append, at_] at e; cases e; exact .inl ⟨rfl, rfl, rfl⟩
    | succ i =>
      obtain ⟨x, y⟩ := at_map (ds := ds) (m := m) (i := i) (by simpa [at_] using e)
      exact .inr ⟨x, i, rfl, y⟩
  refine ⟨⟨l, ?_, fun i k d e => ?_, fun i j k l' d e a q1 n1 q2 n2 _ _ => ?_⟩, fun a => ⟨fun ⟨i, k, d, e, hk, hs⟩ => ?_, fun e => ?_⟩⟩
  · unfold L2.start
    simp only [List.length_append, List.length_map, List.length_replicate, List.length_cons]
    omega
  · rcases at1 e with ⟨rfl, rfl, rfl⟩ | ⟨rfl, j, rfl, y⟩
    · exact ⟨_, start_get rfl, a0, o, rfl, hf, hh, hc⟩
    · obtain ⟨v, hv, rv⟩ := h.get y
      exact ⟨v, start_get (by simpa using hv), rv⟩
  · rcases at1 q1 with ⟨rfl, _⟩ | ⟨x, _⟩
    · rcases at1 q2 with ⟨rfl, _⟩ | ⟨x, _⟩
      · rfl
      · exact absurd x n2
    · exact absurd x n1
  · rcases at1 e with ⟨rfl, _⟩ | ⟨x, _⟩
    · rw [start_get (v := .ref a0) rfl] at hs
      cases hs
      rfl
    · exact absurd x hk
  · subst e
    exact ⟨0, .io, d0, rfl, by decide, start_get rfl⟩
theorem sem_len {n f : Nat} {df : Def} {ds : List D} {r : D × Bool × D} (hb : Tb.body f = some df) (h : Tb.sem n f ds = .ok r) : ds.length = df.np := by
  cases n with
  | zero => simp only [Tab.sem] at h; cases h
  | succ n =>
    rw [Tab.sem_succ Tb n f df ds hb] at h
    unfold run at h
    split at h
    · assumption
    · cases h
theorem sp_len {n f : Nat} {df : Def} {io : Bool} (hb : Tb.body f = some df) {vs : List V} {H : Hp} {Q : VK} {E : XK} (h : spOf R io (Tb.sem n f) vs H Q E) : vs.length = df.np := by
  obtain ⟨F, ds, r, l, h1, h2⟩ := h
  have hl := sem_len hb h1
  cases io with
  | false => rw [h2.1.length, hl]
  | true =>
    obtain ⟨d0, ds', a0, o, vs', rfl, rfl, _, _, _, hr, _⟩ := h2
    simp only [List.length_cons] at hl ⊢
    rw [hr.length, hl]
/-- the body does what the promise says -/
theorem body_go {n f : Nat} {df : Def} {N : List Str} {vs : List V} {H : Hp} {Q : VK} {E : XK} (hb : Tb.body f = some df) (hn : df.np ≤ N.length) (hN : df.n = N.length) (h : spOf R (Tb.io f) (Tb.sem (n + 1) f) vs H Q E) :
    rSs R (Tb.gl n) df.body { nx := fun _ H' => Q .non H', rt := Q } (L2.start N vs) H := by
  obtain ⟨F, ds, r, l, h1, h2⟩ := h
  have hlen := sem_len hb h1
  rw [Tab.sem_succ Tb n f df ds hb] at h1
  unfold run at h1
  rw [if_pos hlen] at h1
  obtain ⟨o, h3, h1⟩ := Res.bind_ok h1
  have hio : Tb.io f = df.io := by unfold Tab.io; rw [hb]
  rw [hio] at h2
  cases hd : df.io with
  | false =>
    rw [hd] at h2
    obtain ⟨rl, q⟩ := h2
    have st : PK.start df ds = ds.map (fun d => some (Ow.f, d)) ++ List.replicate (df.n - df.np) none := by
      unfold PK.start
      rw [hd]
    rw [st] at h3
    obtain ⟨S, no⟩ := start_rep (N := N) (m := df.n - df.np) l rl (by omega)
    refine ⟨F, _, o, S, h3, ?_⟩
    have fin : ∀ {F' H' : Hp} {σ' : L2.St} {env' : Env} {d : D} {fr : Bool} {lt : D} {z : V}, r = (d, fr, lt) → Stp R F H _ _ F' H' σ' env' → RtOk R H (L2.start N vs) (ds.map (fun d => some (Ow.f, d)) ++ List.replicate (df.n - df.np) none) F' H' d fr z → Q z H' := fun {F' H' σ' env' d fr lt z} er s ro => by
      subst er
      refine q z F' H' s.rep.le ⟨s.fr.mono, fun a o e _ => s.fr.keep a o e (no a), fun a o e => ?_, fun a x => .inl x, s.fr.live⟩ ?_
      · rcases s.fr.new a o e with x | x | x
        · exact .inl x
        · exact .inr (.inl x)
        · exact absurd x (no a)
      · cases fr with
        | false => exact ro
        | true =>
          obtain ⟨p, o, e1, e2, e3, e4, e5⟩ := ro
          refine ⟨p, o, e1, e2, e3, e4, ?_⟩
          rcases e5 with x | x
          · exact x
          · exact absurd x.own (no p)
    cases o with
    | nx env' =>
      simp only [lent, hd] at h1
      obtain ⟨lt, h4, h1⟩ := Res.bind_ok h1
      cases h1
      exact fun F' H' σ' s => fin rfl s rfl
    | rt d fr env' =>
      simp only [lent, hd] at h1
      obtain ⟨lt, h4, h1⟩ := Res.bind_ok h1
      cases h1
      exact fun F' H' σ' z s ro => fin rfl s ro
    | bk _ => cases h1
    | ct _ => cases h1
  | true =>
    rw [hd] at h2
    obtain ⟨d0, ds', a0, ob, vs', rfl, rfl, hf, hh, hc, rl, q⟩ := h2
    have st : PK.start df (d0 :: ds') = (some (Ow.io, d0) :: ds'.map fun d => some (Ow.f, d)) ++ List.replicate (df.n - df.np) none := by
      unfold PK.start
      rw [hd]
    rw [st] at h3
    simp only [List.length_cons] at hlen
    obtain ⟨S, ow⟩ := start_io (N := N) (m := df.n - df.np) l hf hh hc rl (by omega)
    refine ⟨F, _, o, S, h3, ?_⟩
    have fin : ∀ {F' H' : Hp} {σ' : L2.St} {env' : Env} {d : D} {fr : Bool} {lt : D} {z : V}, r = (d, fr, lt) → lent df env' = .ok lt → Stp R F H _ _ F' H' σ' env' → RtOk R H (L2.start N (.ref a0 :: vs')) ((some (Ow.io, d0) :: ds'.map fun d => some (Ow.f, d)) ++ List.replicate (df.n - df.np) none) F' H' d fr z → Q z H' := fun {F' H' σ' env' d fr lt z} er hlt s ro => by
      subst er
      unfold lent at hlt
      rw [hd] at hlt
      split at hlt
      case h_2 => cases hlt
      case h_3 =>
        rename_i hx
        cases hx
      rename_i dd hat
      cases hlt
      obtain ⟨_, e0⟩ := s.io 0 _ hat
      rw [start_get (N := N) (vs := V.ref a0 :: vs') (i := 0) rfl] at e0
      obtain ⟨v, hv, a, o', e1, e2, e3, e4⟩ := s.rep.get 0 _ _ hat
      rw [e0] at hv
      cases hv
      cases e1
      refine q z F' H' o' s.rep.le ⟨s.fr.mono, fun a o e n => s.fr.keep a o e fun x => n ((ow a).mp x), fun a o e => ?_, fun a x => .inl x, s.fr.live⟩ e2 e3 e4 ?_
      · rcases s.fr.new a o e with x | x | x
        · exact .inl x
        · exact .inr (.inl x)
        · exact .inr (.inr ((ow a).mp x))
      · cases fr with
        | false => exact ro
        | true =>
          obtain ⟨p, o, e1, e2, e3, e4, e5⟩ := ro
          refine ⟨p, o, e1, e2, e3, e4, ?_⟩
          rcases e5 with x | ⟨i, d', x, _⟩
          · exact x
          · exfalso
            cases i with
            | zero => simp only [List.cons_append, at_] at x; cases x
            | succ i =>
              have y := at_map (ds := ds') (m := df.n - df.np) (i := i) (k := .o) (d := d') (by simpa [at_] using x)
              cases y.1
    cases o with
    | nx env' =>
      obtain ⟨lt, h4, h1⟩ := Res.bind_ok h1
      cases h1
      exact fun F' H' σ' s => fin rfl h4 s rfl
    | rt d fr env' =>
      obtain ⟨lt, h4, h1⟩ := Res.bind_ok h1
      cases h1
      exact fun F' H' σ' z s ro => fin rfl h4 s ro
    | bk _ => cases h1
    | ct _ => cases h1
/-- THE RULE: every def of the text does what the evaluator says -/
theorem all_ok (t : Told R mg base fs free con) (ck : ∀ d ∈ fs, ckD Tb (fnsOf fs) free con d = true) (pl : ∀ d ∈ fs, plainA d) : ∀ n, ∀ d ∈ fs, ∃ a fd, mg d.x = some (.ref a) ∧ FunD R.K d.x d.x d.args d.body d.scope [] [] a fd ∧ FnOk R.P R.w R.K mg base CX0 (n + spare) a fd d.ps (spOf R (Tb.io d.f) (Tb.sem n d.f))
  | 0, d, hd => by
    obtain ⟨a, fd, h1, h2⟩ := t.fn d hd
    refine ⟨a, fd, h1, h2, ⟨fun vs H Q E h => ?_, fun A outer s H args us vs Q E _ _ _ _ h => ?_⟩⟩
    · obtain ⟨F, ds, r, _, e, _⟩ := h
      simp only [Tab.sem] at e
      cases e
    · obtain ⟨F, ds, r, _, e, _⟩ := h
      simp only [Tab.sem] at e
      cases e
  | n + 1, d, hd => by
    obtain ⟨a, fd, h1, h2⟩ := t.fn d hd
    obtain ⟨S, df, hb, hc, e1, e2, hio⟩ := ckD_scope (ck d hd)
    have hnp : df.np ≤ d.N.length := by
      rw [e1]
      have := congrArg List.length S.pre
      rw [List.length_take] at this
      omega
    refine ⟨a, fd, h1, h2, ?_⟩
    have e : n + 1 + spare = (n + spare) + 1 := by omega
    rw [e]
    refine h2.ok S (fun vs H Q E h => by rw [sp_len hb h, e1]) fun cdv A outer s H vs Q E hr h => ⟨rSs R (Tb.gl n) df.body, PSs.nox (pSs (T := ⟨d.N, fnsOf fs, free, con, Tb.io⟩) (n := n + spare) (sc := d.scope) ?_ df.body hc), body_go hb hnp e2 h⟩
    refine ⟨⟨rfl, rfl, rfl, rfl, rfl, rfl, S.nd, rfl, fun _ _ => rfl, hr, ⟨t.seer, t.tree, ⟨_, _, rfl, S.gen, S.co, rfl, rfl⟩, ?_⟩, t.free, t.con, fun f x hf => ?_⟩, S.kind, fun f => rfl⟩
    · have := hr.dp
      show (A.deeper _).depth + 100 < recursionLimit
      have : spare = 40 := rfl
      omega
    · unfold fnsOf at hf
      obtain ⟨d', hd', ee⟩ := List.mem_map.mp hf
      cases ee
      obtain ⟨a', fd', k1, k2, k3⟩ := all_ok t ck pl n d' hd'
      exact ⟨a', fd', d'.ps, k1, k2.kp, k2.bindsN (pl d' hd'), k3⟩
end
end PK
end
section
set_option Elab.async false
set_option linter.all false
set_option maxRecDepth 100000
set_option maxHeartbeats 4000000
/-! PkRow: the end of a row: the law's def answers True. -/
namespace PK
open PySem PySem.Spec PyProof.Rows L2
/-- how the script lies: among the module's own objects, or by itself -/
structure Lies (P : Program) (w : World) (K : PySem.W.Frag) (s : Shared) (a : Addr) (ns : List Int) (H : Hp) : Prop where
  seq : SqL K H a (ns.map V.int)
  ok : HOk P w H s.heap
  one : ∀ b u, H b = some u → b = a ∧ ∃ o xs, u = .frz o (.lst xs)
  out : ∀ u, H a = some u → K.lookup a = none
theorem lies {P : Program} {w : World} {K : PySem.W.Frag} {s : Shared} {a : Addr} {vs : List Value} {ns : List Int} (hK : K.In s.heap) (ho : s.heap.get? a = some { cls := .type "list", data := .seq vs.toArray }) (hi : IntsAre vs ns) (hz : ns.length ≤ sizeLine) : ∃ H, Lies P w K s a ns H := by
  have rel := vals_ints hi
  have len := hi.length
  cases look : K.lookup a with
  | some u =>
    have same := hK a u look
    rw [ho] at same
    cases same
    exact ⟨fun _ => none, .inr ⟨_, vs.toArray, _, look, rfl, rfl, rfl, by simpa [len] using hz, by simpa using rel⟩, (fun b u e => nomatch e), (fun b u e => nomatch e), (fun u e => nomatch e)⟩
  | none =>
    let H : Hp := fun b => if b = a then some (.frz { cls := .type "list", data := .seq vs.toArray } (.lst (ns.map V.int))) else none
    have at_a : H a = some (.frz { cls := .type "list", data := .seq vs.toArray } (.lst (ns.map V.int))) := if_pos rfl
    have only : ∀ b u, H b = some u → b = a ∧ u = .frz { cls := .type "list", data := .seq vs.toArray } (.lst (ns.map V.int)) := fun b u e => by
      by_cases hb : b = a
      · subst hb
        rw [at_a] at e
        exact ⟨rfl, (Option.some.inj e).symm⟩
      · have : H b = none := if_neg hb
        rw [this] at e; cases e
    refine ⟨H, .inl (.inr ⟨_, at_a⟩), fun b u e => ?_, fun b u e => ⟨(only b u e).1, _, _, (only b u e).2⟩, fun _ _ => look⟩
    obtain ⟨rfl, rfl⟩ := only b u e
    exact ⟨ho, by simpa using hz, vs, _, rel, ho⟩
theorem law_run {P : Program} {w : World} {K : PySem.W.Frag} {mg mb : Str → Option Value} {k : Nat} {fa a : Addr} {fd : FuncData} {x : Str} {sp : Sp} {s : Shared} {vs : List Value} {ns : List Int} (hK : K.In s.heap) (nm : s.heap.Ns mainGlobals mg) (nb : s.heap.Ns builtinsNs mb) (hb : ∀ x : Str, x ≠ "__name__" → mb x = bootBuiltins x)
    (lim : s.heap.NoLimit) (seer : s.heap.NoSeer) (gens : s.gens = #[]) (ho : s.heap.get? a = some { cls := .type "list", data := .seq vs.toArray }) (hi : IntsAre vs ns) (hz : ns.length ≤ sizeLine) (room : Room k callerA)
    (F : ∀ base : Heap, K.In base → base.Ns mainGlobals mg → base.NoSeer → FnOk P w K mg base CX0 k fa fd [x] sp) (bind : ∀ (s : Shared) (u : Value), BindsTo s fd ⟨[u], []⟩ [(x, u)])
    (hsp : ∀ H : Hp, SqL K H a (ns.map V.int) → sp [.ref a] H (fun v _ => v = .bl true) fun _ _ _ => False) :
    codeAny (model P w) callerA (.call (.ref fa) ⟨[.ref a], []⟩) (fun r s' => r = .ok (.ret (.bool true)) ∧ OldK s.heap s'.heap ∧ s'.os = s.os ∧ AllBare s'.gens) s := by
  obtain ⟨H, L⟩ := lies (P := P) (w := w) hK ho hi hz
  have stays : ∀ {b o}, s.heap.get? b = some o → (b = a → H a = none) → (hidT s.heap H).get? b = some o := fun {b o} e n => hidT_get e (by
    cases q : H b with
    | none => rfl
    | some u =>
      obtain ⟨rfl, _⟩ := L.one b u q
      rw [n rfl] at q; cases q)
  have no_seq : ∀ {b : Addr} {o : Obj}, s.heap.get? b = some o → (∀ xs n, o.data ≠ .seq xs n) → b = a → H a = none := fun {b o} e n z => by
    subst z
    rw [ho] at e
    cases e
    exact absurd rfl (n _ _)
  have nsK : ∀ {b : Addr} {m : Str → Option Value}, s.heap.Ns b m → (hidT s.heap H).Ns b m := fun {b m} x => by
    obtain ⟨o, es, ep, e, d, r⟩ := x
    exact ⟨o, es, ep, stays e (no_seq e fun xs n z => by rw [d] at z; cases z), d, r⟩
  have inK : K.In (hidT s.heap H) := fun b o e => stays (hK b o e) fun z => by
    subst z
    cases q : H b with
    | none => rfl
    | some u =>
      rw [L.out u q] at e; cases e
  have seer' : (hidT s.heap H).NoSeer := by
    obtain ⟨⟨mc, n1, c1, c2⟩, ⟨mm, n2, c3⟩, ⟨mi, n3, c4⟩, ⟨m4, bm, ob, n4, c5, e5, c6, c7⟩⟩ := seer
    refine ⟨⟨mc, nsK n1, c1, c2⟩, ⟨mm, nsK n2, c3⟩, ⟨mi, nsK n3, c4⟩, ⟨m4, bm, ob, nsK n4, c5, stays e5 fun z => ?_, c6, c7⟩⟩
    subst z
    rw [ho] at e5
    cases e5
    cases c7
  have lim' : (hidT s.heap H).NoLimit := by
    obtain ⟨mc, n1, c1⟩ := lim
    exact ⟨mc, nsK n1, c1⟩
  have env : Env0 P w K mg (hidT s.heap H) callerA [] s H := ⟨rfl, ⟨inK, nsK nm, ⟨mb, nsK nb, hb⟩, lim'⟩, fun b o e => of_hidT e, by rw [hidT_size]; exact Nat.le_refl _, trivial, (fun b z => nomatch z), L.ok, .of_eq gens⟩
  have go := (F _ inK (nsK nm) seer').run callerA [] s H ⟨[.ref a], []⟩ [.ref a] [.ref a] _ _ room env (bind s (.ref a)) (.cons rfl .nil) (hsp H L.seq)
  refine codeAny_mono go fun r s' h => ?_
  match r, h with
  | .error e, h => exact h.elim
  | .ok .next, h => exact h.elim
  | .ok .brk, h => exact h.elim
  | .ok .cont, h => exact h.elim
  | .ok (.ret u), ⟨v, H', os, bare, un, ok', rv, q⟩ =>
    have q : v = .bl true := q
    subst q
    cases (show u = Value.bool true from rv)
    refine ⟨rfl, OldK.of_keep fun b o e => ?_, os, bare⟩
    cases q : H b with
    | none => exact un.keep b o e q (fun z => nomatch z) (fun z => nomatch z)
    | some u =>
      obtain ⟨rfl, ob, xs, rfl⟩ := L.one b u q
      have before := (L.ok _ _ q).1
      have after := (ok' _ _ (un.frzs _ _ _ q)).1
      rw [e] at before
      cases before
      exact after
/-- the end: the law's def among the row's defs; what the evaluator says of it -/
theorem walk_law {l : PySem.W.OpenLaw} {m n : Nat} {q : Program} {loose : List Str} {XP : (Str → Option Value) → Heap → Prop} {YP : World → Heap → Prop} {d : DefRec} {Tb : Tab} {fs : List FD} {free : List Str} {con : List (Str × D)} {lw : FD}
    (hn : l.most = some m) (hm : m ≤ sizeLine) (hdf : d.params.defaults = []) (hr : Room (n + spare) callerA) (hq : importsNone q = true) (ht : l.prog.given.tree = none) (hp : lw.ps = [("script" : Str)]) (hx : d.name = lw.x) (hl : lw ∈ fs) (hio : Tb.io lw.f = false)
    (ck : fs.all (ckD Tb (fnsOf fs) free con) = true) (pl : ∀ d ∈ fs, plainA d)
    (told : ∀ (w : World) (mg : Str → Option Value) (h : Heap), YP w h → h.Ns mainGlobals mg → ∃ K : PySem.W.Frag, K.In h ∧ ∀ base : Heap, K.In base → base.Ns mainGlobals mg → base.NoSeer → Told ⟨l.prog, w, K, fun _ => 0, fun _ => ⟨#[]⟩, fun _ => []⟩ mg base fs free con)
    (law : ∀ ns : List Int, ns.length ≤ m → ∃ fr lt, Tb.sem n lw.f [.scr (ns.map D.int)] = .ok (.bl true, fr, lt)) :
    PySem.W.WalkO q loose XP YP l.row.toRowW d [] (fun f vs => PySem.call f vs) := by
  refine Att.attach_call hn hdf fun w s₀ s₁ mg mb fa o pm cd doc a vs ns G Y ho hd hcd hmg hobj hints hlen hg => ?_
  obtain ⟨K, KX, hT⟩ := told w mg _ Y G.T.g
  have seer := G.T.seer hq
  obtain ⟨a', fd, h1, h2, _⟩ := all_ok (hT _ KX G.T.g seer) (fun d hd => List.all_eq_true.mp ck d hd) pl n lw hl
  have ea : a' = fa := by
    rw [hx, h1] at hmg
    cases hmg
    rfl
  subst ea
  refine law_run (fd := fd) (x := "script") (sp := spOf ⟨l.prog, w, K, fun _ => 0, fun _ => ⟨#[]⟩, fun _ => []⟩ (Tb.io lw.f) (Tb.sem n lw.f)) KX G.T.g G.T.b G.T.builtins G.T.nolimit seer hg hobj hints (Nat.le_trans hlen hm) hr (fun base b1 b2 b3 => ?_) (fun s u => ?_) fun H hS => ?_
  · obtain ⟨a2, fd2, k1, k2, k3⟩ := all_ok (hT base b1 b2 b3) (fun d hd => List.all_eq_true.mp ck d hd) pl n lw hl
    have e2 : a2 = a' := by
      rw [h1] at k1
      cases k1
      rfl
    subst e2
    have e3 : fd2 = fd := by
      obtain ⟨_, _, _, _, _, _, _, _, _, _, _, l1, _⟩ := k2.ex
      obtain ⟨_, _, _, _, _, _, _, _, _, _, _, l2, _⟩ := h2.ex
      rw [l1] at l2
      have := congrArg (fun o : Option Obj => o.map (·.data)) l2
      simpa using this
    subst e3
    rw [hp] at k3
    exact k3
  · have b := h2.bindsA (ps := lw.ps) (pl lw hl) s [u] (by rw [hp]; rfl)
    rw [hp] at b
    exact b
  · obtain ⟨fr, lt, hs⟩ := law ns hlen
    refine ⟨H, [.scr (ns.map D.int)], _, Le.refl _, hs, ?_⟩
    rw [hio]
    have rl : ∀ ns : List Int, RepL ⟨l.prog, w, K, fun _ => 0, fun _ => ⟨#[]⟩, fun _ => []⟩ H (ns.map D.int) (ns.map V.int) := fun ns => by
      induction ns with
      | nil => rfl
      | cons i r ih => exact ⟨_, _, rfl, rfl, ih⟩
    refine ⟨⟨_, [], rfl, ?_, rfl⟩, fun z F' H' _ _ vo => vo.bl⟩
    unfold Rep
    exact ⟨a, _, rfl, hS, rl ns⟩

/-! ### what the head tells -/
def intsDv : List D → Option (List He.Dv)
  | [] => some []
  | .int i :: r => (intsDv r).map (He.Dv.int i :: ·)
  | _ :: _ => none
def conFa : Str × D → He.Fa
  | (x, .int i) => .int x i
  | (x, .str s) => .str x ⟨s.toArray⟩
  | (x, _) => .glo x
def conB (K : PySem.W.Frag) : Str × D → Bool
  | (_, .int _) => true
  | (_, .str _) => true
  | (x, .tup ds) => (match intsDv ds with
    | some vs => He.tupB K x vs
    | none => false)
  | _ => false
def faOf (fs : List FD) (free : List Str) (con : List (Str × D)) : List He.Fa := fs.map (fun d => .glo d.x) ++ (free.map .free ++ con.map conFa)
def fnOfs (fs : List FD) : List He.DefD := fs.map fun d => ⟨(d.x, none), d.x, d.x, d.args, d.body, d.scope, [], []⟩
def obsP (n : Nat) (fs : List FD) (free : List Str) (con : List (Str × D)) (g : Addr → Option Obj) : He.AlD × Bool :=
  (fun K => (He.obsD (faOf fs free con) (fnOfs fs) K, con.all (conB K))) (He.frG g (He.asD g n))
def hookP (n : Nat) (fs : List FD) (free : List Str) (con : List (Str × D)) : PySem.W.Hook where
  α := He.AlD × Bool
  obs := fun s => obsP n fs free con s.heap.get?
  val := fun _ => (He.valD (fnOfs fs), true)
  says := fun _ h => ∃ K : PySem.W.Frag, K.In h ∧ He.SaysD (faOf fs free con) (fnOfs fs) K ∧ con.all (conB K) = true
  of := fun _ _ e => ⟨_, He.frG_in, congrArg Prod.fst e, congrArg Prod.snd e⟩
  keeps := fun _ _ _ ⟨K, hK, c⟩ k => ⟨K, PySem.W.Frag.In.keeps hK k, c⟩
theorem obsP_eq {n : Nat} {fs : List FD} {free : List Str} {con : List (Str × D)} {g : Addr → Option Obj} {s : Shared} (h : ∀ a, g a = s.heap.get? a) : obsP n fs free con g = (hookP n fs free con).obs s := by
  have e : g = s.heap.get? := funext h
  rw [e] <;> rfl
section
variable {fs : List FD} {free : List Str} {con : List (Str × D)} {K : PySem.W.Frag} {h : Heap} {mg : Str → Option Value}
theorem says_all (c : He.SaysD (faOf fs free con) (fnOfs fs) K) {f : He.Fa} (hf : f ∈ faOf fs free con) : f.ok K = true := by
  obtain ⟨i, hi⟩ := List.mem_iff_getElem?.mp hf
  exact c.fact i hi
theorem ints_rep {R : RCx} : ∀ {ds : List D} {vs : List He.Dv}, intsDv ds = some vs → ∀ F, RepL R F ds (vs.map (He.Dv.v K))
  | [], vs, e, F => by
    cases e
    rfl
  | .int i :: r, vs, e, F => by
    obtain ⟨ws, h1, h2⟩ := Option.map_eq_some_iff.mp (show (intsDv r).map (He.Dv.int i :: ·) = some vs from e)
    subst h2
    exact ⟨.int i, _, rfl, rfl, ints_rep h1 F⟩
  | .non :: _, _, e, _ => nomatch e
  | .bl _ :: _, _, e, _ => nomatch e
  | .str _ :: _, _, e, _ => nomatch e
  | .tup _ :: _, _, e, _ => nomatch e
  | .lst _ :: _, _, e, _ => nomatch e
  | .dct _ _ :: _, _, e, _ => nomatch e
  | .obj _ _ :: _, _, e, _ => nomatch e
  | .scr _ :: _, _, e, _ => nomatch e
theorem look_mem {α : Type} : ∀ {l : List (Str × α)} {x : Str} {d : α}, l.lookup x = some d → (x, d) ∈ l
  | (y, e) :: r, x, d, h => by
    rw [List.lookup_cons] at h
    cases q : (x == y) with
    | true =>
      rw [q] at h
      cases h
      rw [eq_of_beq q]
      exact List.mem_cons_self
    | false =>
      rw [q] at h
      exact List.mem_cons_of_mem _ (look_mem h)
theorem told_of {P : Program} {w : World} {base : Heap} {cls : Nat → Addr} {fld : Nat → Str} {flds : Nat → List Nat} (tree : P.given.tree = none) (X : K.In h) (G : h.Ns mainGlobals mg) (c : He.SaysD (faOf fs free con) (fnOfs fs) K) (cb : con.all (conB K) = true) (s : base.NoSeer) : Told ⟨P, w, K, cls, fld, flds⟩ mg base fs free con where
  seer := s
  tree := tree
  free := fun x hx => He.free_ok X G (says_all c (List.mem_append_right _ (List.mem_append_left _ (List.mem_map_of_mem hx))))
  con := fun x d hd => by
    have hm := look_mem hd
    have f := says_all c (List.mem_append_right _ (List.mem_append_right _ (List.mem_map_of_mem (f := conFa) hm)))
    have b := List.all_eq_true.mp cb _ hm
    cases d with
    | int i =>
      obtain ⟨t, e⟩ := He.int_ok X G (x := x) (i := i) f
      exact ⟨_, .int i, e, ⟨t, rfl⟩, fun F => rfl⟩
    | str z =>
      obtain ⟨t, e⟩ := He.str_ok X G (x := x) (z := ⟨z.toArray⟩) f
      exact ⟨_, strV z, e, ⟨t, rfl⟩, fun F => rfl⟩
    | tup ds =>
      have e := He.glo_ok X G (x := x) f
      simp only [conB] at b
      split at b
      · rename_i vs hv
        refine ⟨_, .ref (He.ga K x), e, rfl, fun F => ?_⟩
        unfold Rep
        exact ⟨_, _, rfl, He.tupB_ok b F, ints_rep hv F⟩
      · cases b
    | _ => cases b
  fn := fun d hd => by
    have hm : (⟨(d.x, none), d.x, d.x, d.args, d.body, d.scope, [], []⟩ : He.DefD) ∈ fnOfs fs := List.mem_map_of_mem (f := fun d : FD => (⟨(d.x, none), d.x, d.x, d.args, d.body, d.scope, [], []⟩ : He.DefD)) hd
    obtain ⟨i, hi⟩ := List.mem_iff_getElem?.mp hm
    obtain ⟨fd, F⟩ := c.def_ i hi
    exact ⟨He.ga K d.x, fd, He.glo_ok X G (says_all c (List.mem_append_left _ (List.mem_map_of_mem (f := fun d : FD => He.Fa.glo d.x) hd))), F⟩
end
theorem plain_of' {d : FD} (m : Nat) (hm : d.ps.length = m) (h : ∀ (kV doc pm : Value) (an : Option Addr) (cdv ct : Value) (us : List Value), us.length = m → bindArgs (PySem.W.fnOf d.x d.x d.args d.body d.scope .none kV doc pm an cdv ct) ⟨us, []⟩ = pure (d.ps.zip us)) : plainA d := fun kV doc pm an cdv ct us hl => h kV doc pm an cdv ct us (by rw [← hm]; exact hl)
def PlAll : List FD → Prop
  | [] => True
  | d :: r => plainA d ∧ PlAll r
theorem PlAll.all : ∀ {fs : List FD}, PlAll fs → ∀ d ∈ fs, plainA d
  | d :: r, ⟨h, t⟩, e, he => by
    rcases List.mem_cons.mp he with rfl | he
    · exact h
    · exact PlAll.all t e he
def CkAll (p : FD → Prop) : List FD → Prop
  | [] => True
  | d :: r => p d ∧ CkAll p r
theorem ckAll_all {p : FD → Prop} : ∀ {fs : List FD}, CkAll p fs → ∀ d ∈ fs, p d
  | d :: r, ⟨h, t⟩, e, he => by
    rcases List.mem_cons.mp he with rfl | he
    · exact h
    · exact ckAll_all t e he
end PK
end
section
set_option Elab.async false
set_option linter.all false
set_option maxRecDepth 100000
set_option maxHeartbeats 0
namespace PK
/-- is_integer -/
def b_0 : Def := ⟨false, 1, 1, [
  .ret (.and (.bi (.isi .int) [(.v 0)]) (.not (.bi (.isi .bool) [(.v 0)])))]⟩
/-- is_between -/
def b_1 : Def := ⟨false, 3, 3, [
  .ret (.and (.call 0 [(.v 0)]) (.chain .le .le (.v 1) (.v 0) (.v 2)))]⟩
/-- divisor -/
def b_2 : Def := ⟨false, 2, 4, [
  .par [2, 3] [(.bi .abs [(.v 0)]), (.bi .abs [(.v 1)])],
  .whl (.cmp .gt (.v 3) (.c (.int 0))) [.par [2, 3] [(.v 3), (.bin .mod (.v 2) (.v 3))]],
  .ret (.v 2)]⟩
/-- common -/
def b_3 : Def := ⟨false, 1, 3, [
  .set (.nm 1) (.c (.int 0)),
  .fr (.nm 2) (.v 0) [.set (.nm 1) (.call 2 [(.v 1), (.v 2)])],
  .ret (.v 1)]⟩
/-- is_fraction -/
def b_4 : Def := ⟨false, 1, 2, [
  .iff (.or (.not (.bi (.isi .tuple) [(.v 0)])) (.or (.cmp .ne (.bi .len [(.v 0)]) (.c (.int 2))) (.not (.bi .all [(.comp (.nm 1) (.v 0) [] (.call 0 [(.v 1)]))])))) [.ret (.c (.bl false))] [],
  .ret (.and (.cmp .ge (.ix (.v 0) (.c (.int 1))) (.c (.int 1))) (.cmp .eq (.call 2 [(.ix (.v 0) (.c (.int 0))), (.ix (.v 0) (.c (.int 1)))]) (.c (.int 1))))]⟩
/-- is_form -/
def b_5 : Def := ⟨false, 2, 3, [
  .iff (.or (.not (.bi (.isi .tuple) [(.v 0)])) (.or (.cmp .ne (.bi .len [(.v 0)]) (.bin .add (.v 1) (.c (.int 2)))) (.not (.bi .all [(.comp (.nm 2) (.v 0) [] (.call 0 [(.v 2)]))])))) [.ret (.c (.bl false))] [],
  .ret (.and (.cmp .ge (.ix (.v 0) (.neg (.c (.int 1)))) (.c (.int 1))) (.cmp .eq (.call 3 [(.v 0)]) (.c (.int 1))))]⟩
/-- is_move -/
def b_6 : Def := ⟨false, 3, 4, [
  .iff (.or (.not (.bi (.isi .tuple) [(.v 0)])) (.or (.cmp .ne (.bi .len [(.v 0)]) (.c (.int 2))) (.not (.call 1 [(.ix (.v 0) (.c (.int 0))), (.c (.int 0)), (.bin .sub (.v 2) (.c (.int 1)))])))) [.ret (.c (.bl false))] [],
  .iff (.or (.not (.bi (.isi .tuple) [(.ix (.v 0) (.c (.int 1)))])) (.cmp .ne (.bi .len [(.ix (.v 0) (.c (.int 1)))]) (.v 1))) [.ret (.c (.bl false))] [],
  .ret (.bi .all [(.comp (.nm 3) (.ix (.v 0) (.c (.int 1))) [] (.call 5 [(.v 3), (.v 1)]))])]⟩
/-- is_phase -/
def b_7 : Def := ⟨false, 3, 4, [
  .iff (.or (.not (.bi (.isi .tuple) [(.v 0)])) (.or (.cmp .ne (.bi .len [(.v 0)]) (.c (.int 2))) (.not (.call 5 [(.ix (.v 0) (.c (.int 0))), (.v 1)])))) [.ret (.c (.bl false))] [],
  .iff (.or (.not (.bi (.isi .tuple) [(.ix (.v 0) (.c (.int 1)))])) (.not (.chain .le .le (.c (.int 1)) (.bi .len [(.ix (.v 0) (.c (.int 1)))]) (.c (.int 5))))) [.ret (.c (.bl false))] [],
  .ret (.bi .all [(.comp (.nm 3) (.ix (.v 0) (.c (.int 1))) [] (.call 6 [(.v 3), (.v 1), (.v 2)]))])]⟩
/-- is_make -/
def b_8 : Def := ⟨false, 1, 6, [
  .iff (.or (.not (.bi (.isi .tuple) [(.v 0)])) (.cmp .ne (.bi .len [(.v 0)]) (.c (.int 3)))) [.ret (.c (.bl false))] [],
  .set (.tp [(.nm 1), (.nm 2), (.nm 3)]) (.v 0),
  .iff (.or (.not (.bi (.isi .tuple) [(.v 2)])) (.or (.cmp .gt (.bi .len [(.v 2)]) (.c (.int 4))) (.not (.bi .all [(.comp (.nm 5) (.v 2) [] (.call 4 [(.v 5)]))])))) [.ret (.c (.bl false))] [],
  .iff (.or (.not (.bi (.isi .tuple) [(.v 3)])) (.not (.chain .le .le (.c (.int 1)) (.bi .len [(.v 3)]) (.c (.int 5))))) [.ret (.c (.bl false))] [],
  .iff (.not (.call 1 [(.v 1), (.c (.int 0)), (.bin .sub (.bi .len [(.v 3)]) (.c (.int 1)))])) [.ret (.c (.bl false))] [],
  .iff (.not (.bi .all [(.comp (.nm 4) (.v 3) [] (.call 7 [(.v 4), (.bi .len [(.v 2)]), (.bi .len [(.v 3)])]))])) [.ret (.c (.bl false))] [],
  .ret (.bi .all [(.comp (.nm 4) (.v 3) [] (.cmp .eq (.bi .len [(.ix (.v 4) (.c (.int 1)))]) (.bi .len [(.ix (.ix (.v 3) (.c (.int 0))) (.c (.int 1)))])))])]⟩
/-- need_make -/
def b_9 : Def := ⟨false, 1, 1, [
  .iff (.not (.call 8 [(.v 0)])) [.raise 0 []] []]⟩
/-- count_keys -/
def b_10 : Def := ⟨false, 1, 1, [
  .ret (.bi .len [(.ix (.ix (.ix (.v 0) (.c (.int 2))) (.c (.int 0))) (.c (.int 1)))])]⟩
/-- letters -/
def b_11 : Def := ⟨false, 1, 1, [
  .ret (.sl (.c (.str [97, 98, 99, 100, 101])) .no (.call 10 [(.v 0)]))]⟩
/-- keys -/
def b_12 : Def := ⟨false, 1, 1, [
  .ex (.call 9 [(.v 0)]),
  .ret (.call 11 [(.v 0)])]⟩
/-- _law_source -/
def b_13 : Def := ⟨false, 2, 3, [
  .set (.nm 2) (.c (.int 0)),
  .iff (.cmp .lt (.v 1) (.bi .len [(.v 0)])) [.set (.nm 2) (.bi .abs [(.ix (.v 0) (.v 1))])] [],
  .iff (.cmp .lt (.v 2) (.bin .pow (.c (.int 10)) (.c (.int 18)))) [.ret (.lst [(.c (.int 0)), (.bin .add (.c (.int 1)) (.bin .mod (.bin .add (.bin .mul (.v 2) (.c (.int 7919))) (.bin .mul (.c (.int 104729)) (.v 1))) (.c (.int 2147483646))))])] [],
  .ret (.lst [(.v 2), (.bin .add (.c (.int 1)) (.bin .mod (.bin .add (.v 2) (.v 1)) (.c (.int 2147483646))))])]⟩
/-- _law_draw -/
def b_14 : Def := ⟨true, 2, 3, [
  .iff (.cmp .gt (.ix (.v 0) (.c (.int 0))) (.c (.int 0))) [.set (.nm 2) (.bin .mod (.ix (.v 0) (.c (.int 0))) (.v 1)), .setIx 0 (.c (.int 0)) (.bin .div (.ix (.v 0) (.c (.int 0))) (.v 1)), .ret (.v 2)] [],
  .setIx 0 (.c (.int 1)) (.bin .mod (.bin .mul (.ix (.v 0) (.c (.int 1))) (.c (.int 48271))) (.c (.int 2147483647))),
  .ret (.bin .mod (.bin .div (.bin .mod (.bin .mul (.ix (.v 0) (.c (.int 1))) (.ix (.v 0) (.c (.int 1)))) (.c (.int 2147483629))) (.c (.int 64))) (.v 1))]⟩
/-- _law_choice -/
def b_15 : Def := ⟨true, 2, 2, [
  .ret (.ix (.v 1) (.call 14 [(.v 0), (.bi .len [(.v 1)])]))]⟩
/-- _law_low -/
def b_16 : Def := ⟨false, 2, 4, [
  .par [2, 3] [(.bi .abs [(.v 0)]), (.bi .abs [(.v 1)])],
  .whl (.cmp .gt (.v 3) (.c (.int 0))) [.par [2, 3] [(.v 3), (.bin .mod (.v 2) (.v 3))]],
  .ret (.tup [(.bin .div (.v 0) (.v 2)), (.bin .div (.v 1) (.v 2))])]⟩
/-- _law_shared -/
def b_17 : Def := ⟨false, 1, 5, [
  .set (.nm 1) (.c (.int 0)),
  .fr (.nm 2) (.v 0) [.par [3, 4] [(.bi .abs [(.v 2)]), (.v 1)], .whl (.cmp .gt (.v 4) (.c (.int 0))) [.par [3, 4] [(.v 4), (.bin .mod (.v 3) (.v 4))]], .set (.nm 1) (.v 3)],
  .ret (.v 1)]⟩
/-- _law_form -/
def b_18 : Def := ⟨true, 2, 6, [
  .set (.nm 2) (.lst []),
  .fr (.nm 3) (.rng [(.v 1)]) [.app 2 (.call 15 [(.v 0), (.lst [(.c (.int 0)), (.c (.int 0)), (.c (.int 1)), (.c (.int 1)), (.neg (.c (.int 1))), (.c (.int 2)), (.c (.int 10)), (.bin .sub (.call 14 [(.v 0), (.c (.int 9))]) (.c (.int 4)))])])],
  .app 2 (.call 15 [(.v 0), (.lst [(.c (.int 0)), (.c (.int 0)), (.c (.int 1)), (.neg (.c (.int 1))), (.c (.int 3)), (.bin .sub (.call 14 [(.v 0), (.c (.int 21))]) (.c (.int 10)))])]),
  .app 2 (.call 15 [(.v 0), (.lst [(.c (.int 1)), (.c (.int 1)), (.c (.int 1)), (.c (.int 1)), (.c (.int 2)), (.c (.int 3))])]),
  .set (.nm 4) (.call 17 [(.v 2)]),
  .ret (.bi .tuple [(.comp (.nm 5) (.v 2) [] (.bin .div (.v 5) (.v 4)))])]⟩
/-- _law_move -/
def b_19 : Def := ⟨true, 3, 4, [
  .ret (.tup [(.call 14 [(.v 0), (.v 2)]), (.bi .tuple [(.comp (.nm 3) (.rng [(.v 1)]) [] (.call 18 [(.v 0), (.v 1)]))])])]⟩
/-- _law_make -/
def b_20 : Def := ⟨true, 4, 10, [
  .set (.nm 4) (.lst []),
  .fr (.nm 5) (.rng [(.v 2)]) [.set (.nm 7) (.bi .tuple [(.comp (.nm 9) (.rng [(.v 3)]) [] (.call 19 [(.v 0), (.v 1), (.v 2)]))]), .app 4 (.tup [(.call 18 [(.v 0), (.v 1)]), (.v 7)])],
  .set (.nm 6) (.bi .tuple [(.comp (.nm 8) (.rng [(.v 1)]) [] (.call 16 [(.bin .sub (.call 14 [(.v 0), (.c (.int 7))]) (.c (.int 3))), (.bin .add (.c (.int 1)) (.call 14 [(.v 0), (.c (.int 2))]))]))]),
  .ret (.tup [(.call 14 [(.v 0), (.v 2)]), (.v 6), (.bi .tuple [(.v 4)])])]⟩
/-- _law_parted -/
def b_21 : Def := ⟨true, 2, 5, [
  .iff (.and (.bi (.isi .tuple) [(.v 1)]) (.and (.cmp .ne (.v 1) (.tup [])) (.cmp .gt (.call 14 [(.v 0), (.c (.int 5))]) (.c (.int 0))))) [.set (.nm 2) (.call 14 [(.v 0), (.bi .len [(.v 1)])]), .set (.nm 3) (.call 14 [(.v 0), (.c (.int 9))]), .iff (.cmp .eq (.v 3) (.c (.int 0))) [.ret (.bin .add (.sl (.v 1) .no (.v 2)) (.sl (.v 1) (.bin .add (.v 2) (.c (.int 1))) .no))] [], .iff (.cmp .eq (.v 3) (.c (.int 1))) [.ret (.bin .add (.sl (.v 1) .no (.bin .add (.v 2) (.c (.int 1)))) (.sl (.v 1) (.v 2) .no))] [], .ret (.bin .add (.bin .add (.sl (.v 1) .no (.v 2)) (.tup [(.call 21 [(.v 0), (.ix (.v 1) (.v 2))])])) (.sl (.v 1) (.bin .add (.v 2) (.c (.int 1))) .no))] [],
  .iff (.cmp .eq (.call 14 [(.v 0), (.c (.int 3))]) (.c (.int 0))) [.set (.nm 4) (.lst [(.c .non), (.c (.bl true)), (.c (.bl false)), (.c (.int 0)), (.c (.int 1)), (.c (.int 2)), (.neg (.c (.int 1))), (.c (.int 5)), (.c (.int 7)), (.c (.str [97])), (.tup []), (.lst []), (.tup [(.c (.int 0)), (.c (.int 1))]), (.tup [(.c (.int 1)), (.c (.int 0))]), (.lst [(.c (.int 0)), (.c (.int 1))]), (.tup [(.c (.int 2)), (.c (.int 4))]), (.bin .pow (.c (.int 10)) (.c (.int 30)))]), .ret (.call 15 [(.v 0), (.v 4)])] [],
  .iff (.bi (.isi .int) [(.v 1)]) [.ret (.call 15 [(.v 0), (.lst [(.bin .add (.v 1) (.c (.int 1))), (.bin .sub (.v 1) (.c (.int 1))), (.bin .mul (.c (.int 2)) (.v 1)), (.bin .sub (.c (.int 0)) (.v 1))])])] [],
  .ret (.ite (.bi (.isi .tuple) [(.v 1)]) (.bi .list [(.v 1)]) (.c .non))]⟩
/-- _law_is_whole -/
def b_22 : Def := ⟨false, 1, 1, [
  .ret (.and (.bi (.isi .int) [(.v 0)]) (.not (.bi (.isi .bool) [(.v 0)])))]⟩
/-- _law_is_form -/
def b_23 : Def := ⟨false, 2, 3, [
  .iff (.or (.not (.bi (.isi .tuple) [(.v 0)])) (.cmp .ne (.bi .len [(.v 0)]) (.bin .add (.v 1) (.c (.int 2))))) [.ret (.c (.bl false))] [],
  .iff (.or (.cmp .ne (.comp (.nm 2) (.v 0) [(.not (.call 22 [(.v 2)]))] (.v 2)) (.lst [])) (.cmp .lt (.ix (.v 0) (.neg (.c (.int 1)))) (.c (.int 1)))) [.ret (.c (.bl false))] [],
  .ret (.cmp .eq (.call 17 [(.v 0)]) (.c (.int 1)))]⟩
/-- _law_is_value -/
def b_24 : Def := ⟨false, 1, 1, [
  .iff (.or (.not (.bi (.isi .tuple) [(.v 0)])) (.or (.cmp .ne (.bi .len [(.v 0)]) (.c (.int 2))) (.or (.not (.call 22 [(.ix (.v 0) (.c (.int 0)))])) (.not (.call 22 [(.ix (.v 0) (.c (.int 1)))]))))) [.ret (.c (.bl false))] [],
  .ret (.and (.cmp .gt (.ix (.v 0) (.c (.int 1))) (.c (.int 0))) (.cmp .eq (.call 16 [(.ix (.v 0) (.c (.int 0))), (.ix (.v 0) (.c (.int 1)))]) (.v 0)))]⟩
/-- _law_is_phase -/
def b_25 : Def := ⟨false, 4, 6, [
  .iff (.or (.not (.bi (.isi .tuple) [(.v 0)])) (.or (.cmp .ne (.bi .len [(.v 0)]) (.c (.int 2))) (.not (.call 23 [(.ix (.v 0) (.c (.int 0))), (.v 1)])))) [.ret (.c (.bl false))] [],
  .iff (.or (.not (.bi (.isi .tuple) [(.ix (.v 0) (.c (.int 1)))])) (.cmp .ne (.bi .len [(.ix (.v 0) (.c (.int 1)))]) (.v 3))) [.ret (.c (.bl false))] [],
  .fr (.nm 4) (.ix (.v 0) (.c (.int 1))) [.iff (.or (.not (.bi (.isi .tuple) [(.v 4)])) (.or (.cmp .ne (.bi .len [(.v 4)]) (.c (.int 2))) (.not (.call 22 [(.ix (.v 4) (.c (.int 0)))])))) [.ret (.c (.bl false))] [], .iff (.or (.cmp .lt (.ix (.v 4) (.c (.int 0))) (.c (.int 0))) (.or (.cmp .ge (.ix (.v 4) (.c (.int 0))) (.v 2)) (.or (.not (.bi (.isi .tuple) [(.ix (.v 4) (.c (.int 1)))])) (.cmp .ne (.bi .len [(.ix (.v 4) (.c (.int 1)))]) (.v 1))))) [.ret (.c (.bl false))] [], .iff (.cmp .ne (.comp (.nm 5) (.ix (.v 4) (.c (.int 1))) [(.not (.call 23 [(.v 5), (.v 1)]))] (.v 5)) (.lst [])) [.ret (.c (.bl false))] []],
  .ret (.c (.bl true))]⟩
/-- _law_is_make -/
def b_26 : Def := ⟨false, 1, 6, [
  .iff (.or (.not (.bi (.isi .tuple) [(.v 0)])) (.or (.cmp .ne (.bi .len [(.v 0)]) (.c (.int 3))) (.not (.call 22 [(.ix (.v 0) (.c (.int 0)))])))) [.ret (.c (.bl false))] [],
  .set (.tp [(.nm 2), (.nm 3), (.nm 4)]) (.v 0),
  .iff (.or (.not (.bi (.isi .tuple) [(.v 3)])) (.or (.cmp .gt (.bi .len [(.v 3)]) (.c (.int 4))) (.cmp .ne (.comp (.nm 5) (.v 3) [(.not (.call 24 [(.v 5)]))] (.v 5)) (.lst [])))) [.ret (.c (.bl false))] [],
  .iff (.or (.not (.bi (.isi .tuple) [(.v 4)])) (.or (.not (.chain .le .le (.c (.int 1)) (.bi .len [(.v 4)]) (.c (.int 5)))) (.not (.chain .le .lt (.c (.int 0)) (.v 2) (.bi .len [(.v 4)]))))) [.ret (.c (.bl false))] [],
  .set (.nm 1) (.ix (.v 4) (.c (.int 0))),
  .iff (.or (.not (.bi (.isi .tuple) [(.v 1)])) (.or (.cmp .ne (.bi .len [(.v 1)]) (.c (.int 2))) (.not (.bi (.isi .tuple) [(.ix (.v 1) (.c (.int 1)))])))) [.ret (.c (.bl false))] [],
  .iff (.not (.chain .le .le (.c (.int 1)) (.bi .len [(.ix (.v 1) (.c (.int 1)))]) (.c (.int 5)))) [.ret (.c (.bl false))] [],
  .ret (.cmp .eq (.comp (.nm 5) (.v 4) [(.not (.call 25 [(.v 5), (.bi .len [(.v 3)]), (.bi .len [(.v 4)]), (.bi .len [(.ix (.v 1) (.c (.int 1)))])]))] (.v 5)) (.lst []))]⟩
/-- lowest -/
def b_28 : Def := ⟨false, 2, 3, [
  .set (.nm 2) (.call 2 [(.v 0), (.v 1)]),
  .iff (.cmp .lt (.v 1) (.c (.int 0))) [.set (.nm 2) (.neg (.v 2))] [],
  .ret (.tup [(.bin .div (.v 0) (.v 2)), (.bin .div (.v 1) (.v 2))])]⟩
/-- plus -/
def b_29 : Def := ⟨false, 2, 2, [
  .ret (.call 28 [(.bin .add (.bin .mul (.ix (.v 0) (.c (.int 0))) (.ix (.v 1) (.c (.int 1)))) (.bin .mul (.ix (.v 1) (.c (.int 0))) (.ix (.v 0) (.c (.int 1))))), (.bin .mul (.ix (.v 0) (.c (.int 1))) (.ix (.v 1) (.c (.int 1))))])]⟩
/-- times -/
def b_30 : Def := ⟨false, 2, 2, [
  .ret (.call 28 [(.bin .mul (.ix (.v 0) (.c (.int 0))) (.ix (.v 1) (.c (.int 0)))), (.bin .mul (.ix (.v 0) (.c (.int 1))) (.ix (.v 1) (.c (.int 1))))])]⟩
/-- dot -/
def L31_1 : List S := [.iff (.and (.cmp .ne (.v 3) (.c (.tup [(.int 0), (.int 1)]))) (.cmp .ne (.v 4) (.c (.tup [(.int 0), (.int 1)])))) [.set (.nm 2) (.call 29 [(.v 2), (.call 30 [(.v 3), (.v 4)])])] []]
@[simp] theorem u_L31_1 (G : Gl) (e : Env) : evSs G L31_1 e = evSs G [.iff (.and (.cmp .ne (.v 3) (.c (.tup [(.int 0), (.int 1)]))) (.cmp .ne (.v 4) (.c (.tup [(.int 0), (.int 1)])))) [.set (.nm 2) (.call 29 [(.v 2), (.call 30 [(.v 3), (.v 4)])])] []] e := rfl
def b_31 : Def := ⟨false, 2, 5, [
  .set (.nm 2) (.c (.tup [(.int 0), (.int 1)])),
  .fr (.tp [(.nm 3), (.nm 4)]) (.zip (.v 0) (.v 1)) L31_1,
  .ret (.v 2)]⟩
/-- is_row -/
def E32_1 : X := (.cmp .in_ (.v 3) (.call 11 [(.v 0)]))
@[simp] theorem u_E32_1 (G : Gl) (e : Env) : evX G E32_1 e = evX G (.cmp .in_ (.v 3) (.call 11 [(.v 0)])) e := rfl
def b_32 : Def := ⟨false, 3, 4, [
  .iff (.or (.not (.bi (.isi .str) [(.v 1)])) (.cmp .gt (.bi .len [(.v 1)]) (.v 2))) [.ret (.c (.bl false))] [],
  .ret (.bi .all [(.comp (.nm 3) (.v 1) [] E32_1)])]⟩
/-- need_row -/
def b_33 : Def := ⟨false, 2, 2, [
  .iff (.not (.call 32 [(.v 0), (.v 1), (.c (.int 40))])) [.raise 0 []] []]⟩
/-- vector_of -/
def E34_1 : X := (.call 28 [(.v 1), (.ix (.v 0) (.neg (.c (.int 1))))])
@[simp] theorem u_E34_1 (G : Gl) (e : Env) : evX G E34_1 e = evX G (.call 28 [(.v 1), (.ix (.v 0) (.neg (.c (.int 1))))]) e := rfl
def b_34 : Def := ⟨false, 1, 2, [
  .ret (.bi .tuple [(.comp (.nm 1) (.sl (.v 0) .no (.neg (.c (.int 1)))) [] E34_1)])]⟩
/-- number_by -/
def b_35 : Def := ⟨false, 2, 2, [
  .ret (.call 31 [(.call 34 [(.v 0)]), (.bin .add (.v 1) (.tup [(.c (.tup [(.int 1), (.int 1)]))]))])]⟩
/-- move_of -/
def b_36 : Def := ⟨false, 3, 3, [
  .ret (.ix (.ix (.ix (.ix (.v 0) (.c (.int 2))) (.v 1)) (.c (.int 1))) (.mt .index (.c (.str [97, 98, 99, 100, 101])) [(.v 2)]))]⟩
/-- pressed -/
def E37_1 : X := (.call 35 [(.v 4), (.ix (.v 1) (.c (.int 1)))])
@[simp] theorem u_E37_1 (G : Gl) (e : Env) : evX G E37_1 e = evX G (.call 35 [(.v 4), (.ix (.v 1) (.c (.int 1)))]) e := rfl
def b_37 : Def := ⟨false, 3, 5, [
  .set (.nm 3) (.call 36 [(.v 0), (.ix (.v 1) (.c (.int 0))), (.v 2)]),
  .ret (.tup [(.ix (.v 3) (.c (.int 0))), (.bi .tuple [(.comp (.nm 4) (.ix (.v 3) (.c (.int 1))) [] E37_1)])])]⟩
/-- first_state -/
def b_38 : Def := ⟨false, 1, 1, [
  .ret (.tup [(.ix (.v 0) (.c (.int 0))), (.ix (.v 0) (.c (.int 1)))])]⟩
/-- state_behind -/
def L39_1 : List S := [.set (.nm 3) (.call 37 [(.v 0), (.v 3), (.v 4)])]
@[simp] theorem u_L39_1 (G : Gl) (e : Env) : evSs G L39_1 e = evSs G [.set (.nm 3) (.call 37 [(.v 0), (.v 3), (.v 4)])] e := rfl
def b_39 : Def := ⟨false, 3, 5, [
  .set (.nm 3) (.v 1),
  .fr (.nm 4) (.v 2) L39_1,
  .ret (.v 3)]⟩
/-- shown_in -/
def b_40 : Def := ⟨false, 2, 2, [
  .ret (.call 35 [(.ix (.ix (.ix (.v 0) (.c (.int 2))) (.ix (.v 1) (.c (.int 0)))) (.c (.int 0))), (.ix (.v 1) (.c (.int 1)))])]⟩
/-- all_behind -/
def L41_1 : List S := [.set (.nm 2) (.call 37 [(.v 0), (.v 2), (.v 4)]), .app 3 (.call 40 [(.v 0), (.v 2)])]
@[simp] theorem u_L41_1 (G : Gl) (e : Env) : evSs G L41_1 e = evSs G [.set (.nm 2) (.call 37 [(.v 0), (.v 2), (.v 4)]), .app 3 (.call 40 [(.v 0), (.v 2)])] e := rfl
def b_41 : Def := ⟨false, 2, 5, [
  .set (.nm 2) (.call 38 [(.v 0)]),
  .set (.nm 3) (.lst [(.call 40 [(.v 0), (.v 2)])]),
  .fr (.nm 4) (.v 1) L41_1,
  .ret (.v 3)]⟩
/-- state -/
def b_42 : Def := ⟨false, 2, 2, [
  .ex (.call 9 [(.v 0)]),
  .ex (.call 33 [(.v 0), (.v 1)]),
  .ret (.call 39 [(.v 0), (.call 38 [(.v 0)]), (.v 1)])]⟩
/-- shown -/
def b_43 : Def := ⟨false, 2, 2, [
  .ret (.call 40 [(.v 0), (.call 42 [(.v 0), (.v 1)])])]⟩
/-- all_shown -/
def b_44 : Def := ⟨false, 2, 2, [
  .ex (.call 9 [(.v 0)]),
  .ex (.call 33 [(.v 0), (.v 1)]),
  .ret (.call 41 [(.v 0), (.v 1)])]⟩
/-- _law_sum -/
def b_45 : Def := ⟨false, 2, 2, [
  .ret (.call 16 [(.bin .add (.bin .mul (.ix (.v 0) (.c (.int 0))) (.ix (.v 1) (.c (.int 1)))) (.bin .mul (.ix (.v 1) (.c (.int 0))) (.ix (.v 0) (.c (.int 1))))), (.bin .mul (.ix (.v 0) (.c (.int 1))) (.ix (.v 1) (.c (.int 1))))])]⟩
/-- _law_times -/
def b_46 : Def := ⟨false, 2, 2, [
  .ret (.call 16 [(.bin .mul (.ix (.v 0) (.c (.int 0))) (.ix (.v 1) (.c (.int 0)))), (.bin .mul (.ix (.v 0) (.c (.int 1))) (.ix (.v 1) (.c (.int 1))))])]⟩
/-- _law_given -/
def L47_1 : List S := [.set (.nm 2) (.call 45 [(.v 2), (.call 46 [(.tup [(.v 3), (.c (.int 1))]), (.v 4)])])]
@[simp] theorem u_L47_1 (G : Gl) (e : Env) : evSs G L47_1 e = evSs G [.set (.nm 2) (.call 45 [(.v 2), (.call 46 [(.tup [(.v 3), (.c (.int 1))]), (.v 4)])])] e := rfl
def b_47 : Def := ⟨false, 2, 5, [
  .set (.nm 2) (.tup [(.ix (.v 0) (.neg (.c (.int 2)))), (.c (.int 1))]),
  .fr (.tp [(.nm 3), (.nm 4)]) (.zip (.v 0) (.v 1)) L47_1,
  .ret (.call 46 [(.v 2), (.tup [(.c (.int 1)), (.ix (.v 0) (.neg (.c (.int 1))))])])]⟩
/-- _law_press -/
def E48_1 : X := (.call 47 [(.v 5), (.ix (.v 1) (.c (.int 1)))])
@[simp] theorem u_E48_1 (G : Gl) (e : Env) : evX G E48_1 e = evX G (.call 47 [(.v 5), (.ix (.v 1) (.c (.int 1)))]) e := rfl
def b_48 : Def := ⟨false, 3, 6, [
  .set (.tp [(.nm 3), (.nm 4)]) (.ix (.ix (.ix (.ix (.v 0) (.c (.int 2))) (.ix (.v 1) (.c (.int 0)))) (.c (.int 1))) (.mt .index (.c (.str [97, 98, 99, 100, 101])) [(.v 2)])),
  .ret (.tup [(.v 3), (.bi .tuple [(.comp (.nm 5) (.v 4) [] E48_1)])])]⟩
/-- _law_seen -/
def b_49 : Def := ⟨false, 2, 2, [
  .ret (.call 47 [(.ix (.ix (.ix (.v 0) (.c (.int 2))) (.ix (.v 1) (.c (.int 0)))) (.c (.int 0))), (.ix (.v 1) (.c (.int 1)))])]⟩
/-- _law_behind -/
def L50_1 : List S := [.set (.nm 1) (.call 48 [(.v 0), (.v 1), (.v 3)])]
@[simp] theorem u_L50_1 (G : Gl) (e : Env) : evSs G L50_1 e = evSs G [.set (.nm 1) (.call 48 [(.v 0), (.v 1), (.v 3)])] e := rfl
def b_50 : Def := ⟨false, 3, 4, [
  .fr (.nm 3) (.v 2) L50_1,
  .ret (.v 1)]⟩
/-- _law_number -/
def b_51 : Def := ⟨false, 2, 2, [
  .ret (.call 49 [(.v 0), (.call 50 [(.v 0), (.sl (.v 0) .no (.c (.int 2))), (.v 1)])])]⟩
/-- _law_row -/
def E52_1 : X := (.ix (.c (.str [97, 98, 99, 100, 101])) (.call 14 [(.v 0), (.v 1)]))
@[simp] theorem u_E52_1 (G : Gl) (e : Env) : evX G E52_1 e = evX G (.ix (.c (.str [97, 98, 99, 100, 101])) (.call 14 [(.v 0), (.v 1)])) e := rfl
def b_52 : Def := ⟨true, 3, 4, [
  .ret (.mt .join (.c (.str [])) [(.comp (.nm 3) (.rng [(.call 14 [(.v 0), (.bin .add (.v 2) (.c (.int 1)))])]) [] E52_1)])]⟩
/-- negative -/
def b_54 : Def := ⟨false, 1, 1, [
  .ret (.tup [(.neg (.ix (.v 0) (.c (.int 0)))), (.ix (.v 0) (.c (.int 1)))])]⟩
/-- minus -/
def b_55 : Def := ⟨false, 2, 2, [
  .ret (.call 29 [(.v 0), (.call 54 [(.v 1)])])]⟩
/-- over -/
def b_56 : Def := ⟨false, 2, 2, [
  .ret (.call 28 [(.bin .mul (.ix (.v 0) (.c (.int 0))) (.ix (.v 1) (.c (.int 1)))), (.bin .mul (.ix (.v 0) (.c (.int 1))) (.ix (.v 1) (.c (.int 0))))])]⟩
/-- less_times -/
def E57_1 : X := (.call 55 [(.v 3), (.call 30 [(.v 1), (.v 4)])])
@[simp] theorem u_E57_1 (G : Gl) (e : Env) : evX G E57_1 e = evX G (.call 55 [(.v 3), (.call 30 [(.v 1), (.v 4)])]) e := rfl
def b_57 : Def := ⟨false, 3, 5, [
  .iff (.cmp .eq (.v 1) (.c (.tup [(.int 0), (.int 1)]))) [.ret (.v 0)] [],
  .ret (.bi .tuple [(.comp (.tp [(.nm 3), (.nm 4)]) (.zip (.v 0) (.v 2)) [] E57_1)])]⟩
/-- place_in -/
def L58_1 : List S := [.iff (.cmp .ne (.ix (.v 0) (.v 2)) (.c (.tup [(.int 0), (.int 1)]))) [.ret (.v 2)] []]
@[simp] theorem u_L58_1 (G : Gl) (e : Env) : evSs G L58_1 e = evSs G [.iff (.cmp .ne (.ix (.v 0) (.v 2)) (.c (.tup [(.int 0), (.int 1)]))) [.ret (.v 2)] []] e := rfl
def b_58 : Def := ⟨false, 2, 3, [
  .fr (.nm 2) (.rng [(.v 1)]) L58_1,
  .ret (.c .non)]⟩
/-- reduced -/
def L59_1 : List S := [.set (.nm 2) (.call 57 [(.v 2), (.ix (.v 2) (.v 3)), (.v 4)])]
@[simp] theorem u_L59_1 (G : Gl) (e : Env) : evSs G L59_1 e = evSs G [.set (.nm 2) (.call 57 [(.v 2), (.ix (.v 2) (.v 3)), (.v 4)])] e := rfl
def b_59 : Def := ⟨false, 2, 5, [
  .set (.nm 2) (.v 1),
  .fr (.tp [(.nm 3), (.nm 4)]) (.v 0) L59_1,
  .ret (.v 2)]⟩
/-- scaled -/
def E60_1 : X := (.call 56 [(.v 2), (.ix (.v 0) (.v 1))])
@[simp] theorem u_E60_1 (G : Gl) (e : Env) : evX G E60_1 e = evX G (.call 56 [(.v 2), (.ix (.v 0) (.v 1))]) e := rfl
def b_60 : Def := ⟨false, 2, 3, [
  .ret (.bi .tuple [(.comp (.nm 2) (.v 0) [] E60_1)])]⟩
/-- longer -/
def b_61 : Def := ⟨false, 3, 5, [
  .set (.nm 3) (.call 59 [(.v 0), (.v 1)]),
  .set (.nm 4) (.call 58 [(.v 3), (.v 2)]),
  .ret (.ite (.cmp .is (.v 4) (.c .non)) (.c .non) (.bin .add (.v 0) (.lst [(.tup [(.v 4), (.call 60 [(.v 3), (.v 4)])])])))]⟩
/-- need_pair -/
def b_62 : Def := ⟨false, 2, 2, [
  .ex (.call 9 [(.v 0)]),
  .ex (.call 9 [(.v 1)]),
  .iff (.cmp .ne (.call 10 [(.v 0)]) (.call 10 [(.v 1)])) [.raise 0 []] []]⟩
/-- behind_key -/
def E63_1 : X := (.call 34 [(.v 9)])
@[simp] theorem u_E63_1 (G : Gl) (e : Env) : evX G E63_1 e = evX G (.call 34 [(.v 9)]) e := rfl
def E63_2 : X := (.ix (.v 11) (.v 10))
@[simp] theorem u_E63_2 (G : Gl) (e : Env) : evX G E63_2 e = evX G (.ix (.v 11) (.v 10)) e := rfl
def E63_3 : X := (.call 31 [(.sl (.v 3) .no (.v 6)), (.comp (.nm 11) (.v 5) [] E63_2)])
@[simp] theorem u_E63_3 (G : Gl) (e : Env) : evX G E63_3 e = evX G (.call 31 [(.sl (.v 3) .no (.v 6)), (.comp (.nm 11) (.v 5) [] E63_2)]) e := rfl
def E63_4 : X := (.ix (.v 11) (.v 6))
@[simp] theorem u_E63_4 (G : Gl) (e : Env) : evX G E63_4 e = evX G (.ix (.v 11) (.v 6)) e := rfl
def b_63 : Def := ⟨false, 4, 12, [
  .set (.nm 4) (.ix (.call 36 [(.v 0), (.v 1), (.v 2)]) (.c (.int 1))),
  .set (.nm 5) (.comp (.nm 9) (.v 4) [] E63_1),
  .set (.nm 6) (.bi .len [(.v 4)]),
  .set (.nm 7) (.comp (.nm 10) (.rng [(.v 6)]) [] E63_3),
  .set (.nm 8) (.call 31 [(.bin .add (.sl (.v 3) .no (.v 6)) (.tup [(.ix (.v 3) (.v 6))])), (.bin .add (.comp (.nm 11) (.v 5) [] E63_4) (.lst [(.c (.tup [(.int 1), (.int 1)]))]))]),
  .ret (.bi .tuple [(.bin .add (.v 7) (.lst [(.v 8)]))])]⟩
/-- pair_behind -/
def b_64 : Def := ⟨false, 5, 7, [
  .set (.nm 5) (.bin .add (.bi .len [(.ix (.v 0) (.c (.int 1)))]) (.c (.int 1))),
  .set (.nm 6) (.call 63 [(.v 0), (.ix (.v 2) (.c (.int 0))), (.v 3), (.sl (.v 4) .no (.v 5))]),
  .ret (.bin .add (.v 6) (.call 63 [(.v 1), (.ix (.v 2) (.c (.int 1))), (.v 3), (.sl (.v 4) (.v 5) .no)]))]⟩
/-- next_pair -/
def b_65 : Def := ⟨false, 4, 5, [
  .set (.nm 4) (.mt .index (.call 11 [(.v 0)]) [(.v 3)]),
  .ret (.tup [(.ix (.ix (.ix (.ix (.ix (.v 0) (.c (.int 2))) (.ix (.v 2) (.c (.int 0)))) (.c (.int 1))) (.v 4)) (.c (.int 0))), (.ix (.ix (.ix (.ix (.ix (.v 1) (.c (.int 2))) (.ix (.v 2) (.c (.int 1)))) (.c (.int 1))) (.v 4)) (.c (.int 0)))])]⟩
/-- shown_vector -/
def E66_1 : X := (.call 54 [(.v 4)])
@[simp] theorem u_E66_1 (G : Gl) (e : Env) : evX G E66_1 e = evX G (.call 54 [(.v 4)]) e := rfl
def b_66 : Def := ⟨false, 3, 5, [
  .set (.nm 3) (.call 34 [(.ix (.ix (.ix (.v 1) (.c (.int 2))) (.ix (.v 2) (.c (.int 1)))) (.c (.int 0)))]),
  .ret (.bin .add (.call 34 [(.ix (.ix (.ix (.v 0) (.c (.int 2))) (.ix (.v 2) (.c (.int 0)))) (.c (.int 0)))]) (.bi .tuple [(.comp (.nm 4) (.v 3) [] E66_1)]))]⟩
/-- kept_pairs -/
def E67_1 : X := (.tup [(.v 3), (.v 13)])
@[simp] theorem u_E67_1 (G : Gl) (e : Env) : evX G E67_1 e = evX G (.tup [(.v 3), (.v 13)]) e := rfl
def L67_1 : List S := [.set (.nm 2) (.bin .add (.v 2) (.comp (.nm 13) (.rng [(.bi .len [(.ix (.v 1) (.c (.int 2)))])]) [] E67_1))]
@[simp] theorem u_L67_1 (G : Gl) (e : Env) : evSs G L67_1 e = evSs G [.set (.nm 2) (.bin .add (.v 2) (.comp (.nm 13) (.rng [(.bi .len [(.ix (.v 1) (.c (.int 2)))])]) [] E67_1))] e := rfl
def E67_2 : X := (.tup [(.v 9), (.c (.str [])), (.call 66 [(.v 0), (.v 1), (.v 9)])])
@[simp] theorem u_E67_2 (G : Gl) (e : Env) : evX G E67_2 e = evX G (.tup [(.v 9), (.c (.str [])), (.call 66 [(.v 0), (.v 1), (.v 9)])]) e := rfl
def E67_3 : X := (.tup [(.v 9), (.lst [])])
@[simp] theorem u_E67_3 (G : Gl) (e : Env) : evX G E67_3 e = evX G (.tup [(.v 9), (.lst [])]) e := rfl
def E67_4 : X := (.cmp .ne (.v 7) (.lst []))
@[simp] theorem u_E67_4 (G : Gl) (e : Env) : evX G E67_4 e = evX G (.cmp .ne (.v 7) (.lst [])) e := rfl
def E67_5 : X := (.tup [(.v 14), (.ite (.cmp .eq (.v 14) (.v 9)) (.v 12) (.ix (.v 5) (.v 14)))])
@[simp] theorem u_E67_5 (G : Gl) (e : Env) : evX G E67_5 e = evX G (.tup [(.v 14), (.ite (.cmp .eq (.v 14) (.v 9)) (.v 12) (.ix (.v 5) (.v 14)))]) e := rfl
def L67_2 : List S := [.set (.nm 12) (.call 61 [(.ix (.v 5) (.v 9)), (.v 11), (.v 4)]), .iff (.cmp .isnt (.v 12) (.c .non)) [.set (.nm 5) (.bi .dictOf [(.comp (.nm 14) (.v 2) [] E67_5)]), .set (.nm 8) (.bin .add (.v 8) (.lst [(.tup [(.v 9), (.v 10), (.v 11)])]))] []]
@[simp] theorem u_L67_2 (G : Gl) (e : Env) : evSs G L67_2 e = evSs G [.set (.nm 12) (.call 61 [(.ix (.v 5) (.v 9)), (.v 11), (.v 4)]), .iff (.cmp .isnt (.v 12) (.c .non)) [.set (.nm 5) (.bi .dictOf [(.comp (.nm 14) (.v 2) [] E67_5)]), .set (.nm 8) (.bin .add (.v 8) (.lst [(.tup [(.v 9), (.v 10), (.v 11)])]))] []] e := rfl
def L67_3 : List S := [.set (.nm 8) (.lst []), .fr (.tp [(.nm 9), (.nm 10), (.nm 11)]) (.v 7) L67_2, .par [6, 7] [(.bin .add (.v 6) (.v 8)), (.call 68 [(.v 0), (.v 1), (.v 2), (.v 8)])]]
@[simp] theorem u_L67_3 (G : Gl) (e : Env) : evSs G L67_3 e = evSs G [.set (.nm 8) (.lst []), .fr (.tp [(.nm 9), (.nm 10), (.nm 11)]) (.v 7) L67_2, .par [6, 7] [(.bin .add (.v 6) (.v 8)), (.call 68 [(.v 0), (.v 1), (.v 2), (.v 8)])]] e := rfl
def I67_1 : List X := [(.cmp .eq (.v 14) (.v 9))]
@[simp] theorem u_I67_1 (G : Gl) (e : Env) : evTs G I67_1 e = evTs G [(.cmp .eq (.v 14) (.v 9))] e := rfl
def E67_6 : X := (.tup [(.v 10), (.v 11)])
@[simp] theorem u_E67_6 (G : Gl) (e : Env) : evX G E67_6 e = evX G (.tup [(.v 10), (.v 11)]) e := rfl
def E67_7 : X := (.tup [(.v 9), (.comp (.tp [(.nm 14), (.nm 10), (.nm 11)]) (.v 6) I67_1 E67_6)])
@[simp] theorem u_E67_7 (G : Gl) (e : Env) : evX G E67_7 e = evX G (.tup [(.v 9), (.comp (.tp [(.nm 14), (.nm 10), (.nm 11)]) (.v 6) I67_1 E67_6)]) e := rfl
def b_67 : Def := ⟨false, 2, 15, [
  .set (.nm 2) (.lst []),
  .fr (.nm 3) (.rng [(.bi .len [(.ix (.v 0) (.c (.int 2)))])]) L67_1,
  .set (.nm 4) (.bin .add (.bin .add (.bi .len [(.ix (.v 0) (.c (.int 1)))]) (.bi .len [(.ix (.v 1) (.c (.int 1)))])) (.c (.int 2))),
  .par [6, 7] [(.lst []), (.comp (.nm 9) (.v 2) [] E67_2)],
  .set (.nm 5) (.bi .dictOf [(.comp (.nm 9) (.v 2) [] E67_3)]),
  .whl E67_4 L67_3,
  .ret (.bi .dictOf [(.comp (.nm 9) (.v 2) [] E67_7)])]⟩
/-- behind_all -/
def L68_1 : List S := [.iff (.cmp .eq (.v 8) (.v 7)) [.set (.nm 4) (.bin .add (.v 4) (.lst [(.tup [(.v 5), (.bin .add (.v 6) (.v 9)), (.call 64 [(.v 0), (.v 1), (.v 5), (.v 6), (.v 10)])])]))] []]
@[simp] theorem u_L68_1 (G : Gl) (e : Env) : evSs G L68_1 e = evSs G [.iff (.cmp .eq (.v 8) (.v 7)) [.set (.nm 4) (.bin .add (.v 4) (.lst [(.tup [(.v 5), (.bin .add (.v 6) (.v 9)), (.call 64 [(.v 0), (.v 1), (.v 5), (.v 6), (.v 10)])])]))] []] e := rfl
def L68_2 : List S := [.set (.nm 7) (.call 65 [(.v 0), (.v 1), (.v 5), (.v 6)]), .fr (.tp [(.nm 8), (.nm 9), (.nm 10)]) (.v 3) L68_1]
@[simp] theorem u_L68_2 (G : Gl) (e : Env) : evSs G L68_2 e = evSs G [.set (.nm 7) (.call 65 [(.v 0), (.v 1), (.v 5), (.v 6)]), .fr (.tp [(.nm 8), (.nm 9), (.nm 10)]) (.v 3) L68_1] e := rfl
def L68_3 : List S := [.fr (.nm 6) (.call 11 [(.v 0)]) L68_2]
@[simp] theorem u_L68_3 (G : Gl) (e : Env) : evSs G L68_3 e = evSs G [.fr (.nm 6) (.call 11 [(.v 0)]) L68_2] e := rfl
def b_68 : Def := ⟨false, 4, 11, [
  .set (.nm 4) (.lst []),
  .fr (.nm 5) (.v 2) L68_3,
  .ret (.v 4)]⟩
/-- parted -/
def L69_1 : List S := [.iff (.cmp .ne (.call 31 [(.v 5), (.v 3)]) (.tup [(.c (.int 0)), (.c (.int 1))])) [.ret (.v 4)] []]
@[simp] theorem u_L69_1 (G : Gl) (e : Env) : evSs G L69_1 e = evSs G [.iff (.cmp .ne (.call 31 [(.v 5), (.v 3)]) (.tup [(.c (.int 0)), (.c (.int 1))])) [.ret (.v 4)] []] e := rfl
def b_69 : Def := ⟨false, 3, 6, [
  .set (.nm 3) (.bin .add (.bin .add (.bin .add (.ix (.v 1) (.c (.int 1))) (.tup [(.c (.tup [(.int 1), (.int 1)]))])) (.ix (.v 2) (.c (.int 1)))) (.tup [(.c (.tup [(.int 1), (.int 1)]))])),
  .fr (.tp [(.nm 4), (.nm 5)]) (.ix (.v 0) (.tup [(.ix (.v 1) (.c (.int 0))), (.ix (.v 2) (.c (.int 0)))])) L69_1,
  .ret (.c .non)]⟩
/-- first_parting -/
def b_70 : Def := ⟨false, 2, 2, [
  .ret (.call 69 [(.call 67 [(.v 0), (.v 1)]), (.call 38 [(.v 0)]), (.call 38 [(.v 1)])])]⟩
/-- are_alike -/
def b_71 : Def := ⟨false, 2, 2, [
  .ret (.cmp .is (.call 70 [(.v 0), (.v 1)]) (.c .non))]⟩
/-- alike -/
def b_72 : Def := ⟨false, 2, 2, [
  .ex (.call 62 [(.v 0), (.v 1)]),
  .ret (.call 71 [(.v 0), (.v 1)])]⟩
/-- parting_row -/
def b_73 : Def := ⟨false, 2, 2, [
  .ex (.call 62 [(.v 0), (.v 1)]),
  .ret (.call 70 [(.v 0), (.v 1)])]⟩
/-- bound -/
def b_74 : Def := ⟨false, 2, 2, [
  .ex (.call 62 [(.v 0), (.v 1)]),
  .ret (.bin .mul (.bin .mul (.bi .len [(.ix (.v 0) (.c (.int 2)))]) (.bi .len [(.ix (.v 1) (.c (.int 2)))])) (.bin .add (.bin .add (.bi .len [(.ix (.v 0) (.c (.int 1)))]) (.bi .len [(.ix (.v 1) (.c (.int 1)))])) (.c (.int 1))))]⟩
/-- _law_lowest -/
def E75_1 : X := (.bin .div (.v 2) (.v 1))
@[simp] theorem u_E75_1 (G : Gl) (e : Env) : evX G E75_1 e = evX G (.bin .div (.v 2) (.v 1)) e := rfl
def b_75 : Def := ⟨false, 1, 3, [
  .set (.nm 1) (.call 17 [(.v 0)]),
  .ret (.bi .tuple [(.comp (.nm 2) (.v 0) [] E75_1)])]⟩
/-- _law_mixed -/
def b_76 : Def := ⟨false, 5, 6, [
  .set (.nm 5) (.bi .list [(.v 0)]),
  .setIx 5 (.v 2) (.bin .sub (.ix (.v 5) (.v 2)) (.bin .mul (.v 3) (.ix (.v 0) (.v 1)))),
  .setIx 5 (.neg (.c (.int 2))) (.bin .sub (.ix (.v 5) (.neg (.c (.int 2)))) (.bin .mul (.v 4) (.ix (.v 0) (.v 1)))),
  .ret (.call 75 [(.v 5)])]⟩
/-- _law_joined -/
def E77_1 : X := (.bin .add (.bin .mul (.v 5) (.ix (.v 1) (.neg (.c (.int 1))))) (.bin .mul (.bin .mul (.v 2) (.v 6)) (.ix (.v 0) (.neg (.c (.int 1))))))
@[simp] theorem u_E77_1 (G : Gl) (e : Env) : evX G E77_1 e = evX G (.bin .add (.bin .mul (.v 5) (.ix (.v 1) (.neg (.c (.int 1))))) (.bin .mul (.bin .mul (.v 2) (.v 6)) (.ix (.v 0) (.neg (.c (.int 1)))))) e := rfl
def b_77 : Def := ⟨false, 4, 7, [
  .set (.nm 4) (.comp (.tp [(.nm 5), (.nm 6)]) (.zip (.sl (.v 0) .no (.neg (.c (.int 1)))) (.sl (.v 1) .no (.neg (.c (.int 1))))) [] E77_1),
  .setIx 4 (.neg (.c (.int 1))) (.bin .add (.ix (.v 4) (.neg (.c (.int 1)))) (.bin .mul (.bin .mul (.v 3) (.ix (.v 0) (.neg (.c (.int 1))))) (.ix (.v 1) (.neg (.c (.int 1)))))),
  .ret (.call 75 [(.bin .add (.v 4) (.lst [(.bin .mul (.ix (.v 0) (.neg (.c (.int 1)))) (.ix (.v 1) (.neg (.c (.int 1)))))]))])]⟩
/-- _law_turned -/
def E78_1 : X := (.call 76 [(.v 17), (.v 2), (.v 3), (.v 8), (.v 9)])
@[simp] theorem u_E78_1 (G : Gl) (e : Env) : evX G E78_1 e = evX G (.call 76 [(.v 17), (.v 2), (.v 3), (.v 8), (.v 9)]) e := rfl
def L78_1 : List S := [.set (.nm 16) (.comp (.nm 17) (.v 15) [] E78_1), .setIx 16 (.v 2) (.call 77 [(.ix (.v 16) (.v 2)), (.ix (.v 16) (.v 3)), (.v 8), (.v 9)]), .app 13 (.tup [(.v 14), (.bi .tuple [(.v 16)])])]
@[simp] theorem u_L78_1 (G : Gl) (e : Env) : evSs G L78_1 e = evSs G [.set (.nm 16) (.comp (.nm 17) (.v 15) [] E78_1), .setIx 16 (.v 2) (.call 77 [(.ix (.v 16) (.v 2)), (.ix (.v 16) (.v 3)), (.v 8), (.v 9)]), .app 13 (.tup [(.v 14), (.bi .tuple [(.v 16)])])] e := rfl
def L78_2 : List S := [.set (.nm 13) (.lst []), .fr (.tp [(.nm 14), (.nm 15)]) (.v 12) L78_1, .app 10 (.tup [(.call 76 [(.v 11), (.v 2), (.v 3), (.v 8), (.v 9)]), (.bi .tuple [(.v 13)])])]
@[simp] theorem u_L78_2 (G : Gl) (e : Env) : evSs G L78_2 e = evSs G [.set (.nm 13) (.lst []), .fr (.tp [(.nm 14), (.nm 15)]) (.v 12) L78_1, .app 10 (.tup [(.call 76 [(.v 11), (.v 2), (.v 3), (.v 8), (.v 9)]), (.bi .tuple [(.v 13)])])] e := rfl
def b_78 : Def := ⟨true, 2, 18, [
  .set (.tp [(.nm 5), (.nm 6), (.nm 7)]) (.v 1),
  .iff (.cmp .lt (.bi .len [(.v 6)]) (.c (.int 2))) [.ret (.v 1)] [],
  .set (.nm 2) (.call 14 [(.v 0), (.bi .len [(.v 6)])]),
  .set (.nm 3) (.bin .mod (.bin .add (.bin .add (.v 2) (.c (.int 1))) (.call 14 [(.v 0), (.bin .sub (.bi .len [(.v 6)]) (.c (.int 1)))])) (.bi .len [(.v 6)])),
  .par [8, 9, 10] [(.bin .sub (.call 14 [(.v 0), (.c (.int 5))]) (.c (.int 2))), (.bin .sub (.call 14 [(.v 0), (.c (.int 5))]) (.c (.int 2))), (.lst [])],
  .fr (.tp [(.nm 11), (.nm 12)]) (.v 7) L78_2,
  .set (.nm 4) (.call 45 [(.ix (.v 6) (.v 2)), (.call 45 [(.call 46 [(.tup [(.v 8), (.c (.int 1))]), (.ix (.v 6) (.v 3))]), (.tup [(.v 9), (.c (.int 1))])])]),
  .ret (.tup [(.v 5), (.bin .add (.bin .add (.sl (.v 6) .no (.v 2)) (.tup [(.v 4)])) (.sl (.v 6) (.bin .add (.v 2) (.c (.int 1))) .no)), (.bi .tuple [(.v 10)])])]⟩
/-- _law_wider -/
def E79_1 : X := (.bin .add (.bin .add (.sl (.v 13) .no (.neg (.c (.int 2)))) (.tup [(.c (.int 0))])) (.sl (.v 13) (.neg (.c (.int 2))) .no))
@[simp] theorem u_E79_1 (G : Gl) (e : Env) : evX G E79_1 e = evX G (.bin .add (.bin .add (.sl (.v 13) .no (.neg (.c (.int 2)))) (.tup [(.c (.int 0))])) (.sl (.v 13) (.neg (.c (.int 2))) .no)) e := rfl
def L79_1 : List S := [.set (.nm 12) (.comp (.nm 13) (.v 11) [] E79_1), .app 9 (.tup [(.v 10), (.bi .tuple [(.bin .add (.v 12) (.lst [(.call 18 [(.v 0), (.bin .add (.v 5) (.c (.int 1)))])]))])])]
@[simp] theorem u_L79_1 (G : Gl) (e : Env) : evSs G L79_1 e = evSs G [.set (.nm 12) (.comp (.nm 13) (.v 11) [] E79_1), .app 9 (.tup [(.v 10), (.bi .tuple [(.bin .add (.v 12) (.lst [(.call 18 [(.v 0), (.bin .add (.v 5) (.c (.int 1)))])]))])])] e := rfl
def L79_2 : List S := [.set (.nm 9) (.lst []), .fr (.tp [(.nm 10), (.nm 11)]) (.v 8) L79_1, .app 6 (.tup [(.bin .add (.bin .add (.sl (.v 7) .no (.neg (.c (.int 2)))) (.tup [(.c (.int 0))])) (.sl (.v 7) (.neg (.c (.int 2))) .no)), (.bi .tuple [(.v 9)])])]
@[simp] theorem u_L79_2 (G : Gl) (e : Env) : evSs G L79_2 e = evSs G [.set (.nm 9) (.lst []), .fr (.tp [(.nm 10), (.nm 11)]) (.v 8) L79_1, .app 6 (.tup [(.bin .add (.bin .add (.sl (.v 7) .no (.neg (.c (.int 2)))) (.tup [(.c (.int 0))])) (.sl (.v 7) (.neg (.c (.int 2))) .no)), (.bi .tuple [(.v 9)])])] e := rfl
def b_79 : Def := ⟨true, 2, 14, [
  .set (.tp [(.nm 2), (.nm 3), (.nm 4)]) (.v 1),
  .iff (.cmp .eq (.bi .len [(.v 3)]) (.c (.int 4))) [.ret (.v 1)] [],
  .par [5, 6] [(.bi .len [(.v 3)]), (.lst [])],
  .fr (.tp [(.nm 7), (.nm 8)]) (.v 4) L79_2,
  .ret (.tup [(.v 2), (.bin .add (.v 3) (.tup [(.tup [(.bin .sub (.call 14 [(.v 0), (.c (.int 9))]) (.c (.int 4))), (.c (.int 1))])])), (.bi .tuple [(.v 6)])])]⟩
/-- _law_renamed -/
def E80_1 : X := (.cmp .ne (.v 8) (.lst []))
@[simp] theorem u_E80_1 (G : Gl) (e : Env) : evX G E80_1 e = evX G (.cmp .ne (.v 8) (.lst [])) e := rfl
def L80_1 : List S := [.set (.nm 9) (.call 14 [(.v 0), (.bi .len [(.v 8)])]), .set (.nm 7) (.bin .add (.v 7) (.lst [(.ix (.v 8) (.v 9))])), .set (.nm 8) (.bin .add (.sl (.v 8) .no (.v 9)) (.sl (.v 8) (.bin .add (.v 9) (.c (.int 1))) .no))]
@[simp] theorem u_L80_1 (G : Gl) (e : Env) : evSs G L80_1 e = evSs G [.set (.nm 9) (.call 14 [(.v 0), (.bi .len [(.v 8)])]), .set (.nm 7) (.bin .add (.v 7) (.lst [(.ix (.v 8) (.v 9))])), .set (.nm 8) (.bin .add (.sl (.v 8) .no (.v 9)) (.sl (.v 8) (.bin .add (.v 9) (.c (.int 1))) .no))] e := rfl
def E80_2 : X := (.tup [(.mt .index (.v 7) [(.v 11)]), (.v 12)])
@[simp] theorem u_E80_2 (G : Gl) (e : Env) : evX G E80_2 e = evX G (.tup [(.mt .index (.v 7) [(.v 11)]), (.v 12)]) e := rfl
def L80_2 : List S := [.set (.nm 10) (.bi .tuple [(.comp (.tp [(.nm 11), (.nm 12)]) (.ix (.ix (.v 6) (.v 3)) (.c (.int 1))) [] E80_2)]), .app 2 (.tup [(.ix (.ix (.v 6) (.v 3)) (.c (.int 0))), (.v 10)])]
@[simp] theorem u_L80_2 (G : Gl) (e : Env) : evSs G L80_2 e = evSs G [.set (.nm 10) (.bi .tuple [(.comp (.tp [(.nm 11), (.nm 12)]) (.ix (.ix (.v 6) (.v 3)) (.c (.int 1))) [] E80_2)]), .app 2 (.tup [(.ix (.ix (.v 6) (.v 3)) (.c (.int 0))), (.v 10)])] e := rfl
def b_80 : Def := ⟨true, 2, 13, [
  .set (.tp [(.nm 4), (.nm 5), (.nm 6)]) (.v 1),
  .par [7, 8] [(.lst []), (.bi .range1 [(.bi .len [(.v 6)])])],
  .whl E80_1 L80_1,
  .set (.nm 2) (.lst []),
  .fr (.nm 3) (.v 7) L80_2,
  .ret (.tup [(.mt .index (.v 7) [(.v 4)]), (.v 5), (.bi .tuple [(.v 2)])])]⟩
/-- _law_nudged -/
def b_81 : Def := ⟨true, 2, 18, [
  .set (.tp [(.nm 9), (.nm 10), (.nm 11)]) (.v 1),
  .set (.nm 2) (.call 14 [(.v 0), (.bi .len [(.v 11)])]),
  .set (.tp [(.nm 12), (.nm 13)]) (.ix (.v 11) (.v 2)),
  .par [14, 15] [(.call 14 [(.v 0), (.bi .len [(.v 13)])]), (.bi .len [(.v 10)])],
  .set (.nm 3) (.ix (.ix (.v 13) (.v 14)) (.c (.int 1))),
  .set (.nm 4) (.call 14 [(.v 0), (.bin .add (.v 15) (.c (.int 1)))]),
  .set (.nm 5) (.ite (.cmp .eq (.v 4) (.v 15)) (.v 12) (.ix (.v 3) (.v 4))),
  .set (.nm 6) (.bi .list [(.v 5)]),
  .set (.nm 7) (.call 14 [(.v 0), (.bin .add (.v 15) (.c (.int 1)))]),
  .setIx 6 (.v 7) (.bin .add (.ix (.v 6) (.v 7)) (.call 15 [(.v 0), (.lst [(.c (.int 1)), (.neg (.c (.int 1))), (.c (.int 2))])])),
  .set (.nm 8) (.call 75 [(.v 6)]),
  .iff (.cmp .eq (.v 4) (.v 15)) [.set (.nm 16) (.tup [(.v 8), (.v 13)])] [.set (.nm 17) (.tup [(.ix (.ix (.v 13) (.v 14)) (.c (.int 0))), (.bin .add (.bin .add (.sl (.v 3) .no (.v 4)) (.tup [(.v 8)])) (.sl (.v 3) (.bin .add (.v 4) (.c (.int 1))) .no))]), .set (.nm 16) (.tup [(.v 12), (.bin .add (.bin .add (.sl (.v 13) .no (.v 14)) (.tup [(.v 17)])) (.sl (.v 13) (.bin .add (.v 14) (.c (.int 1))) .no))])],
  .ret (.tup [(.v 9), (.v 10), (.bin .add (.bin .add (.sl (.v 11) .no (.v 2)) (.tup [(.v 16)])) (.sl (.v 11) (.bin .add (.v 2) (.c (.int 1))) .no))])]⟩
/-- _law_like -/
def L82_1 : List S := [.set (.nm 4) (.call 14 [(.v 0), (.c (.int 4))]), .iff (.cmp .eq (.v 4) (.c (.int 0))) [.set (.nm 2) (.call 81 [(.v 0), (.v 2)])] [.iff (.cmp .eq (.v 4) (.c (.int 1))) [.set (.nm 2) (.call 80 [(.v 0), (.v 2)])] [.iff (.cmp .eq (.v 4) (.c (.int 2))) [.set (.nm 2) (.call 79 [(.v 0), (.v 2)])] [.set (.nm 2) (.call 78 [(.v 0), (.v 2)])]]]]
@[simp] theorem u_L82_1 (G : Gl) (e : Env) : evSs G L82_1 e = evSs G [.set (.nm 4) (.call 14 [(.v 0), (.c (.int 4))]), .iff (.cmp .eq (.v 4) (.c (.int 0))) [.set (.nm 2) (.call 81 [(.v 0), (.v 2)])] [.iff (.cmp .eq (.v 4) (.c (.int 1))) [.set (.nm 2) (.call 80 [(.v 0), (.v 2)])] [.iff (.cmp .eq (.v 4) (.c (.int 2))) [.set (.nm 2) (.call 79 [(.v 0), (.v 2)])] [.set (.nm 2) (.call 78 [(.v 0), (.v 2)])]]]] e := rfl
def b_82 : Def := ⟨true, 2, 5, [
  .set (.nm 2) (.v 1),
  .fr (.nm 3) (.rng [(.call 14 [(.v 0), (.c (.int 4))])]) L82_1,
  .ret (.v 2)]⟩
/-- _law_parts_at -/
def L83_1 : List S := [.app 5 (.tup [(.bin .add (.v 6) (.v 9)), (.call 48 [(.v 0), (.v 7), (.v 9)]), (.call 48 [(.v 1), (.v 8), (.v 9)])])]
@[simp] theorem u_L83_1 (G : Gl) (e : Env) : evSs G L83_1 e = evSs G [.app 5 (.tup [(.bin .add (.v 6) (.v 9)), (.call 48 [(.v 0), (.v 7), (.v 9)]), (.call 48 [(.v 1), (.v 8), (.v 9)])])] e := rfl
def L83_2 : List S := [.iff (.cmp .ne (.call 49 [(.v 0), (.v 7)]) (.call 49 [(.v 1), (.v 8)])) [.ret (.v 6)] [], .iff (.cmp .lt (.v 4) (.v 2)) [.fr (.nm 9) (.sl (.c (.str [97, 98, 99, 100, 101])) .no (.bi .len [(.ix (.ix (.ix (.v 0) (.c (.int 2))) (.c (.int 0))) (.c (.int 1)))])) L83_1] []]
@[simp] theorem u_L83_2 (G : Gl) (e : Env) : evSs G L83_2 e = evSs G [.iff (.cmp .ne (.call 49 [(.v 0), (.v 7)]) (.call 49 [(.v 1), (.v 8)])) [.ret (.v 6)] [], .iff (.cmp .lt (.v 4) (.v 2)) [.fr (.nm 9) (.sl (.c (.str [97, 98, 99, 100, 101])) .no (.bi .len [(.ix (.ix (.ix (.v 0) (.c (.int 2))) (.c (.int 0))) (.c (.int 1)))])) L83_1] []] e := rfl
def L83_3 : List S := [.set (.nm 5) (.lst []), .fr (.tp [(.nm 6), (.nm 7), (.nm 8)]) (.v 3) L83_2, .set (.nm 3) (.v 5)]
@[simp] theorem u_L83_3 (G : Gl) (e : Env) : evSs G L83_3 e = evSs G [.set (.nm 5) (.lst []), .fr (.tp [(.nm 6), (.nm 7), (.nm 8)]) (.v 3) L83_2, .set (.nm 3) (.v 5)] e := rfl
def b_83 : Def := ⟨false, 3, 10, [
  .set (.nm 3) (.lst [(.tup [(.c (.str [])), (.sl (.v 0) .no (.c (.int 2))), (.sl (.v 1) .no (.c (.int 2)))])]),
  .fr (.nm 4) (.rng [(.bin .add (.v 2) (.c (.int 1)))]) L83_3,
  .ret (.c .non)]⟩
/-- law -/
def L84_1 : List S := [.set (.nm 6) (.bin .add (.c (.int 1)) (.call 14 [(.v 4), (.c (.int 2))])), .set (.nm 2) (.call 20 [(.v 4), (.call 14 [(.v 4), (.c (.int 3))]), (.bin .add (.c (.int 1)) (.call 14 [(.v 4), (.ix (.lst [(.c (.int 3)), (.c (.int 2))]) (.bin .sub (.v 6) (.c (.int 1))))])), (.v 6)]), .set (.nm 3) (.call 82 [(.v 4), (.v 2)]), .iff (.cmp .eq (.call 14 [(.v 4), (.c (.int 4))]) (.c (.int 0))) [.set (.nm 3) (.call 20 [(.v 4), (.call 14 [(.v 4), (.c (.int 3))]), (.bin .add (.c (.int 1)) (.call 14 [(.v 4), (.c (.int 2))])), (.v 6)])] [], .set (.nm 7) (.bin .mul (.bin .mul (.bi .len [(.ix (.v 2) (.c (.int 2)))]) (.bi .len [(.ix (.v 3) (.c (.int 2)))])) (.bin .add (.bin .add (.bi .len [(.ix (.v 2) (.c (.int 1)))]) (.bi .len [(.ix (.v 3) (.c (.int 1)))])) (.c (.int 1)))), .iff (.or (.cmp .ne (.call 74 [(.v 2), (.v 3)]) (.v 7)) (.cmp .ne (.call 74 [(.v 3), (.v 2)]) (.v 7))) [.ret (.c (.bl false))] [], .iff (.or (.cmp .eq (.v 6) (.c (.int 1))) (.cmp .le (.v 7) (.c (.int 9)))) [.set (.nm 8) (.call 83 [(.v 2), (.v 3), (.bin .sub (.v 7) (.c (.int 1)))]), .set (.nm 9) (.call 72 [(.v 2), (.v 3)]), .iff (.or (.cmp .ne (.call 73 [(.v 2), (.v 3)]) (.v 8)) (.or (.not (.bi (.isi .bool) [(.v 9)])) (.cmp .ne (.v 9) (.cmp .is (.v 8) (.c .non))))) [.ret (.c (.bl false))] [], .iff (.or (.cmp .ne (.call 73 [(.v 3), (.v 2)]) (.v 8)) (.cmp .isnt (.call 72 [(.v 2), (.v 2)]) (.c (.bl true)))) [.ret (.c (.bl false))] []] []]
@[simp] theorem u_L84_1 (G : Gl) (e : Env) : evSs G L84_1 e = evSs G [.set (.nm 6) (.bin .add (.c (.int 1)) (.call 14 [(.v 4), (.c (.int 2))])), .set (.nm 2) (.call 20 [(.v 4), (.call 14 [(.v 4), (.c (.int 3))]), (.bin .add (.c (.int 1)) (.call 14 [(.v 4), (.ix (.lst [(.c (.int 3)), (.c (.int 2))]) (.bin .sub (.v 6) (.c (.int 1))))])), (.v 6)]), .set (.nm 3) (.call 82 [(.v 4), (.v 2)]), .iff (.cmp .eq (.call 14 [(.v 4), (.c (.int 4))]) (.c (.int 0))) [.set (.nm 3) (.call 20 [(.v 4), (.call 14 [(.v 4), (.c (.int 3))]), (.bin .add (.c (.int 1)) (.call 14 [(.v 4), (.c (.int 2))])), (.v 6)])] [], .set (.nm 7) (.bin .mul (.bin .mul (.bi .len [(.ix (.v 2) (.c (.int 2)))]) (.bi .len [(.ix (.v 3) (.c (.int 2)))])) (.bin .add (.bin .add (.bi .len [(.ix (.v 2) (.c (.int 1)))]) (.bi .len [(.ix (.v 3) (.c (.int 1)))])) (.c (.int 1)))), .iff (.or (.cmp .ne (.call 74 [(.v 2), (.v 3)]) (.v 7)) (.cmp .ne (.call 74 [(.v 3), (.v 2)]) (.v 7))) [.ret (.c (.bl false))] [], .iff (.or (.cmp .eq (.v 6) (.c (.int 1))) (.cmp .le (.v 7) (.c (.int 9)))) [.set (.nm 8) (.call 83 [(.v 2), (.v 3), (.bin .sub (.v 7) (.c (.int 1)))]), .set (.nm 9) (.call 72 [(.v 2), (.v 3)]), .iff (.or (.cmp .ne (.call 73 [(.v 2), (.v 3)]) (.v 8)) (.or (.not (.bi (.isi .bool) [(.v 9)])) (.cmp .ne (.v 9) (.cmp .is (.v 8) (.c .non))))) [.ret (.c (.bl false))] [], .iff (.or (.cmp .ne (.call 73 [(.v 3), (.v 2)]) (.v 8)) (.cmp .isnt (.call 72 [(.v 2), (.v 2)]) (.c (.bl true)))) [.ret (.c (.bl false))] []] []] e := rfl
def L84_2 : List S := [.set (.nm 4) (.call 13 [(.v 0), (.v 1)]), .fr (.nm 5) (.rng [(.c (.int 3))]) L84_1]
@[simp] theorem u_L84_2 (G : Gl) (e : Env) : evSs G L84_2 e = evSs G [.set (.nm 4) (.call 13 [(.v 0), (.v 1)]), .fr (.nm 5) (.rng [(.c (.int 3))]) L84_1] e := rfl
def b_84 : Def := ⟨false, 1, 10, [
  .fr (.nm 1) (.rng [(.bin .add (.c (.int 1)) (.bi .min2 [(.bi .len [(.v 0)]), (.c (.int 6))]))]) L84_2,
  .set (.nm 2) (.tup [(.c (.int 0)), (.tup [(.tup [(.c (.int 0)), (.c (.int 1))])]), (.tup [(.tup [(.tup [(.c (.int 0)), (.c (.int 1)), (.c (.int 1))]), (.tup [(.tup [(.c (.int 1)), (.tup [(.tup [(.c (.int 1)), (.c (.int 1)), (.c (.int 1))])])])])]), (.tup [(.tup [(.c (.int 0)), (.c (.int 1)), (.c (.int 1))]), (.tup [(.tup [(.c (.int 0)), (.tup [(.tup [(.c (.int 1)), (.c (.int 0)), (.c (.int 1))])])])])])])]),
  .set (.nm 3) (.tup [(.c (.int 0)), (.tup []), (.tup [(.tup [(.tup [(.c (.int 1)), (.c (.int 1))]), (.tup [(.tup [(.c (.int 0)), (.tup [])])])])])]),
  .ret (.and (.cmp .is (.call 72 [(.v 2), (.v 3)]) (.c (.bl true))) (.and (.cmp .is (.call 73 [(.v 2), (.v 3)]) (.c .non)) (.cmp .eq (.call 74 [(.v 2), (.v 3)]) (.c (.int 4)))))]⟩
def bodyL0 : List (Option Def) := [some b_0, some b_1, some b_2, some b_3, some b_4, some b_5, some b_6, some b_7, some b_8, some b_9, some b_10, some b_11, some b_12, some b_13, some b_14, some b_15, some b_16, some b_17, some b_18, some b_19]
def bodyL1 : List (Option Def) := [some b_20, some b_21, some b_22, some b_23, some b_24, some b_25, some b_26, none, some b_28, some b_29, some b_30, some b_31, some b_32, some b_33, some b_34, some b_35, some b_36, some b_37, some b_38, some b_39]
def bodyL2 : List (Option Def) := [some b_40, some b_41, some b_42, some b_43, some b_44, some b_45, some b_46, some b_47, some b_48, some b_49, some b_50, some b_51, some b_52, none, some b_54, some b_55, some b_56, some b_57, some b_58, some b_59]
def bodyL3 : List (Option Def) := [some b_60, some b_61, some b_62, some b_63, some b_64, some b_65, some b_66, some b_67, some b_68, some b_69, some b_70, some b_71, some b_72, some b_73, some b_74, some b_75, some b_76, some b_77, some b_78, some b_79]
def bodyL4 : List (Option Def) := [some b_80, some b_81, some b_82, some b_83, some b_84]
def bodyL : List (Option Def) := bodyL0 ++ (bodyL1 ++ (bodyL2 ++ (bodyL3 ++ (bodyL4))))
def bodyT (k : Nat) : Option Def := (bodyL[k]?).getD none
def tab : Tab := ⟨bodyT, fun _ => [], fun _ _ => none, fun _ => 0⟩
@[simp] theorem io_0 : tab.io 0 = false := rfl
@[simp] theorem io_1 : tab.io 1 = false := rfl
@[simp] theorem io_2 : tab.io 2 = false := rfl
@[simp] theorem io_3 : tab.io 3 = false := rfl
@[simp] theorem io_4 : tab.io 4 = false := rfl
@[simp] theorem io_5 : tab.io 5 = false := rfl
@[simp] theorem io_6 : tab.io 6 = false := rfl
@[simp] theorem io_7 : tab.io 7 = false := rfl
@[simp] theorem io_8 : tab.io 8 = false := rfl
@[simp] theorem io_9 : tab.io 9 = false := rfl
@[simp] theorem io_10 : tab.io 10 = false := rfl
@[simp] theorem io_11 : tab.io 11 = false := rfl
@[simp] theorem io_12 : tab.io 12 = false := rfl
@[simp] theorem io_13 : tab.io 13 = false := rfl
@[simp] theorem io_14 : tab.io 14 = true := rfl
@[simp] theorem io_15 : tab.io 15 = true := rfl
@[simp] theorem io_16 : tab.io 16 = false := rfl
@[simp] theorem io_17 : tab.io 17 = false := rfl
@[simp] theorem io_18 : tab.io 18 = true := rfl
@[simp] theorem io_19 : tab.io 19 = true := rfl
@[simp] theorem io_20 : tab.io 20 = true := rfl
@[simp] theorem io_21 : tab.io 21 = true := rfl
@[simp] theorem io_22 : tab.io 22 = false := rfl
@[simp] theorem io_23 : tab.io 23 = false := rfl
@[simp] theorem io_24 : tab.io 24 = false := rfl
@[simp] theorem io_25 : tab.io 25 = false := rfl
@[simp] theorem io_26 : tab.io 26 = false := rfl
@[simp] theorem io_28 : tab.io 28 = false := rfl
@[simp] theorem io_29 : tab.io 29 = false := rfl
@[simp] theorem io_30 : tab.io 30 = false := rfl
@[simp] theorem io_31 : tab.io 31 = false := rfl
@[simp] theorem io_32 : tab.io 32 = false := rfl
@[simp] theorem io_33 : tab.io 33 = false := rfl
@[simp] theorem io_34 : tab.io 34 = false := rfl
@[simp] theorem io_35 : tab.io 35 = false := rfl
@[simp] theorem io_36 : tab.io 36 = false := rfl
@[simp] theorem io_37 : tab.io 37 = false := rfl
@[simp] theorem io_38 : tab.io 38 = false := rfl
@[simp] theorem io_39 : tab.io 39 = false := rfl
@[simp] theorem io_40 : tab.io 40 = false := rfl
@[simp] theorem io_41 : tab.io 41 = false := rfl
@[simp] theorem io_42 : tab.io 42 = false := rfl
@[simp] theorem io_43 : tab.io 43 = false := rfl
@[simp] theorem io_44 : tab.io 44 = false := rfl
@[simp] theorem io_45 : tab.io 45 = false := rfl
@[simp] theorem io_46 : tab.io 46 = false := rfl
@[simp] theorem io_47 : tab.io 47 = false := rfl
@[simp] theorem io_48 : tab.io 48 = false := rfl
@[simp] theorem io_49 : tab.io 49 = false := rfl
@[simp] theorem io_50 : tab.io 50 = false := rfl
@[simp] theorem io_51 : tab.io 51 = false := rfl
@[simp] theorem io_52 : tab.io 52 = true := rfl
@[simp] theorem io_54 : tab.io 54 = false := rfl
@[simp] theorem io_55 : tab.io 55 = false := rfl
@[simp] theorem io_56 : tab.io 56 = false := rfl
@[simp] theorem io_57 : tab.io 57 = false := rfl
@[simp] theorem io_58 : tab.io 58 = false := rfl
@[simp] theorem io_59 : tab.io 59 = false := rfl
@[simp] theorem io_60 : tab.io 60 = false := rfl
@[simp] theorem io_61 : tab.io 61 = false := rfl
@[simp] theorem io_62 : tab.io 62 = false := rfl
@[simp] theorem io_63 : tab.io 63 = false := rfl
@[simp] theorem io_64 : tab.io 64 = false := rfl
@[simp] theorem io_65 : tab.io 65 = false := rfl
@[simp] theorem io_66 : tab.io 66 = false := rfl
@[simp] theorem io_67 : tab.io 67 = false := rfl
@[simp] theorem io_68 : tab.io 68 = false := rfl
@[simp] theorem io_69 : tab.io 69 = false := rfl
@[simp] theorem io_70 : tab.io 70 = false := rfl
@[simp] theorem io_71 : tab.io 71 = false := rfl
@[simp] theorem io_72 : tab.io 72 = false := rfl
@[simp] theorem io_73 : tab.io 73 = false := rfl
@[simp] theorem io_74 : tab.io 74 = false := rfl
@[simp] theorem io_75 : tab.io 75 = false := rfl
@[simp] theorem io_76 : tab.io 76 = false := rfl
@[simp] theorem io_77 : tab.io 77 = false := rfl
@[simp] theorem io_78 : tab.io 78 = true := rfl
@[simp] theorem io_79 : tab.io 79 = true := rfl
@[simp] theorem io_80 : tab.io 80 = true := rfl
@[simp] theorem io_81 : tab.io 81 = true := rfl
@[simp] theorem io_82 : tab.io 82 = true := rfl
@[simp] theorem io_83 : tab.io 83 = false := rfl
@[simp] theorem io_84 : tab.io 84 = false := rfl
end PK
end
section
set_option linter.all false
set_option maxRecDepth 100000
set_option maxHeartbeats 1000000
/-! PkEv: lemmas to work out what the evaluator says. Plain Lean. -/
namespace PK
@[simp] theorem Res.bindE {α β : Type} (a : α) (f : α → Res β) : (Res.ok a).bind f = f a := rfl
@[simp] theorem Res.ofE {α : Type} (a : α) : Res.of (some a) = .ok a := rfl
theorem whlN_more {fc : Env → Res (Bool × Env)} {fb : Env → Res Out} : ∀ {m : Nat} {env : Env} {o : Out}, whlN fc fb m env = .ok o → ∀ k, whlN fc fb (m + k) env = .ok o
  | 0, env, o, h, k => by simp [whlN] at h
  | m + 1, env, o, h, k => by
    rw [Nat.add_right_comm]
    simp only [whlN] at h ⊢
    cases q : fc env with
    | ok r =>
      rw [q] at h
      simp only [Res.bindE] at h ⊢
      obtain ⟨b, e⟩ := r
      cases b with
      | false => exact h
      | true =>
        simp only at h ⊢
        cases q2 : fb e with
        | ok o1 =>
          rw [q2] at h
          simp only [Res.bindE] at h ⊢
          cases o1 with
          | nx e1 => exact whlN_more h k
          | ct e1 => exact whlN_more h k
          | bk e1 => exact h
          | rt d f e1 => exact h
        | ex c p => rw [q2] at h; cases h
        | bad => rw [q2] at h; cases h
    | ex c p => rw [q] at h; cases h
    | bad => rw [q] at h; cases h
/-- a while that ends -/
theorem whl_ok {fc : Env → Res (Bool × Env)} {fb : Env → Res Out} {m : Nat} {env : Env} {o : Out} (h : whlN fc fb m env = .ok o) : whl fc fb env = .ok o := by
  have ex : ∃ o n, whlN fc fb n env = .ok o := ⟨o, m, h⟩
  unfold whl
  rw [dif_pos ex]
  obtain ⟨k, hk⟩ := ex.choose_spec
  have a := whlN_more h k
  have b := whlN_more hk m
  rw [Nat.add_comm] at b
  rw [a] at b
  exact b.symm
/-- the loop of the common divisor -/
theorem whl_gcd {fc : Env → Res (Bool × Env)} {fb : Env → Res Out} {E : Int → Int → Env} (hc : ∀ a b : Nat, fc (E a b) = .ok (decide (0 < b), E a b)) (hb : ∀ a b : Nat, 0 < b → fb (E a b) = .ok (.nx (E b (a % b : Nat)))) (a b : Nat) : whl fc fb (E a b) = .ok (.nx (E (Nat.gcd a b) 0)) := by
  have go : ∀ (k a b : Nat), b < k → whlN fc fb k (E a b) = .ok (.nx (E (Nat.gcd a b) 0)) := by
    intro k
    induction k with
    | zero => intro a b h; omega
    | succ k ih =>
      intro a b h
      simp only [whlN, hc, Res.bindE]
      by_cases h0 : 0 < b
      · simp only [h0, decide_true, hb a b h0, Res.bindE]
        rw [ih b (a % b) (by have := Nat.mod_lt a h0; omega)]
        rw [Nat.gcd_comm b (a % b), ← Nat.gcd_rec b a, Nat.gcd_comm b a]
      · have : b = 0 := by omega
        subst this
        simp
  exact whl_ok (go (b + 1) a b (Nat.lt_succ_self b))
inductive All2 {α β : Type} (P : α → β → Prop) : List α → List β → Prop
  | nil : All2 P [] []
  | cons {a : α} {b : β} {as : List α} {bs : List β} : P a b → All2 P as bs → All2 P (a :: as) (b :: bs)
/-! ### comprehensions and loops -/
theorem compL_inv {α : Type} {e : α → D} {vs : List Nat} {ft : D → Env → Res Env} {fi : Env → Res (Bool × Env)} {fe : Env → Res (DF × Env)} {I : Env → Prop} {P : α → D → Prop} : ∀ {xs : List α} {env : Env},
    (∀ x ∈ xs, ∀ env, I env → ∃ env1 env2 r env3, ft (e x) env = .ok env1 ∧ fi env1 = .ok (true, env2) ∧ fe env2 = .ok (r, env3) ∧ P x r.1 ∧ I (wipeE env3 vs)) → I env →
      ∃ out env', compL vs ft fi fe (xs.map e) env = .ok (out, env') ∧ I env' ∧ All2 P xs out
  | [], env, h, i => ⟨[], env, rfl, i, .nil⟩
  | x :: xs, env, h, i => by
    obtain ⟨env1, env2, r, env3, h1, h2, h3, h4, h5⟩ := h x List.mem_cons_self env i
    obtain ⟨out, env', k1, k2, k3⟩ := compL_inv (xs := xs) (fun y hy => h y (List.mem_cons_of_mem _ hy)) h5
    refine ⟨r.1 :: out, env', ?_, k2, .cons h4 k3⟩
    simp only [List.map_cons, compL, h1, h2, h3, k1, Res.bindE]
/-- without tests, the names unchanged -/
theorem compL_map {α : Type} {e g : α → D} {vs : List Nat} {ft : D → Env → Res Env} {fi : Env → Res (Bool × Env)} {fe : Env → Res (DF × Env)} {env : Env} : ∀ {xs : List α},
    (∀ x ∈ xs, ∃ env1 env2 fr env3, ft (e x) env = .ok env1 ∧ fi env1 = .ok (true, env2) ∧ fe env2 = .ok ((g x, fr), env3) ∧ wipeE env3 vs = env) → compL vs ft fi fe (xs.map e) env = .ok (xs.map g, env)
  | [], h => rfl
  | x :: xs, h => by
    obtain ⟨env1, env2, fr, env3, h1, h2, h3, h4⟩ := h x List.mem_cons_self
    have ih := compL_map (xs := xs) fun y hy => h y (List.mem_cons_of_mem _ hy)
    simp only [List.map_cons, compL, h1, h2, h3, h4, ih, Res.bindE]
/-- with a test -/
theorem compL_filter {α : Type} {e g : α → D} {p : α → Bool} {vs : List Nat} {ft : D → Env → Res Env} {fi : Env → Res (Bool × Env)} {fe : Env → Res (DF × Env)} {env : Env} : ∀ {xs : List α},
    (∀ x ∈ xs, ∃ env1 env2, ft (e x) env = .ok env1 ∧ fi env1 = .ok (p x, env2) ∧ (p x = false → wipeE env2 vs = env) ∧ (p x = true → ∃ fr env3, fe env2 = .ok ((g x, fr), env3) ∧ wipeE env3 vs = env)) → compL vs ft fi fe (xs.map e) env = .ok ((xs.filter p).map g, env)
  | [], h => rfl
  | x :: xs, h => by
    obtain ⟨env1, env2, h1, h2, h3, h4⟩ := h x List.mem_cons_self
    have ih := compL_filter (xs := xs) fun y hy => h y (List.mem_cons_of_mem _ hy)
    simp only [List.map_cons, compL, h1, h2, Res.bindE]
    cases q : p x with
    | false => simp only [h3 q, ih, List.filter_cons, q, Bool.false_eq_true, if_false]
    | true =>
      obtain ⟨fr, env3, k1, k2⟩ := h4 q
      simp only [k1, k2, ih, List.filter_cons, q, if_true, List.map_cons, Res.bindE]
/-- a loop that goes through -/
theorem forL_fold {α β : Type} {e : α → D} {ft : D → Env → Res Env} {fb : Env → Res Out} (E : β → Env) (st : β → α → β) : ∀ {xs : List α} {b : β},
    (∀ x ∈ xs, ∀ b, ∃ env', ft (e x) (E b) = .ok env' ∧ fb env' = .ok (.nx (E (st b x)))) → forL ft fb (xs.map e) (E b) = .ok (.nx (E (xs.foldl st b)))
  | [], b, h => rfl
  | x :: xs, b, h => by
    obtain ⟨env', h1, h2⟩ := h x List.mem_cons_self b
    simp only [List.map_cons, forL, h1, h2, Res.bindE, List.foldl_cons]
    exact forL_fold E st fun y hy => h y (List.mem_cons_of_mem _ hy)
theorem forL_inv {α : Type} {e : α → D} {ft : D → Env → Res Env} {fb : Env → Res Out} {I : Env → Prop} : ∀ {xs : List α} {env : Env},
    (∀ x ∈ xs, ∀ env, I env → ∃ env1 env2, ft (e x) env = .ok env1 ∧ fb env1 = .ok (.nx env2) ∧ I env2) → I env → ∃ env', forL ft fb (xs.map e) env = .ok (.nx env') ∧ I env'
  | [], env, h, i => ⟨env, rfl, i⟩
  | x :: xs, env, h, i => by
    obtain ⟨env1, env2, h1, h2, h3⟩ := h x List.mem_cons_self env i
    obtain ⟨env', k1, k2⟩ := forL_inv (xs := xs) (fun y hy => h y (List.mem_cons_of_mem _ hy)) h3
    exact ⟨env', by simp only [List.map_cons, forL, h1, h2, k1, Res.bindE], k2⟩
theorem map_range (lo : Int) : ∀ n, rangeD lo n = (List.range n).map fun i : Nat => D.int (lo + i)
  | 0 => rfl
  | n + 1 => by
    rw [rangeD, map_range (lo + 1) n, List.range_succ_eq_map, List.map_cons, List.map_map]
    congr 1
    · simp
    · apply List.map_congr_left
      intro i _
      simp only [Function.comp]
      congr 1
      omega
end PK
end
section
set_option linter.all false
set_option maxRecDepth 100000
set_option maxHeartbeats 1000000
/-! PkEv2: the evaluator step by step, its continuations by name. Plain Lean. -/
namespace PK
variable (G : Gl)
def opX (a : X) (env : Env) : Res (Op × Env) := opd a (fun e => evX G a e) env
def kOp : DF × Env → Res (Op × Env) := fun r => .ok (.inl r.1.1, r.2)
def kDF (e : Env) : DF → Res (DF × Env) := fun r => .ok (r, e)
def kBl (e : Env) : Bool → Res (DF × Env) := fun r => .ok ((.bl r, false), e)
def kD (e : Env) : D → Res (DF × Env) := fun r => .ok ((r, false), e)
def kBin2 (o : Bop) (x : Op) : Op × Env → Res (DF × Env) := fun y => (readO x y.2).bind fun p => (readO y.1 y.2).bind fun q => (Res.of (binD o p q)).bind fun r => .ok (r, y.2)
def kBin (o : Bop) (b : X) : Op × Env → Res (DF × Env) := fun x => (opX G b x.2).bind (kBin2 o x.1)
def kCmp2 (o : Cop) (x : Op) : Op × Env → Res (DF × Env) := fun y => (readO x y.2).bind fun p => (readO y.1 y.2).bind fun q => (Res.of (cmpD o p q)).bind fun r => .ok ((.bl r, false), y.2)
def kCmp (o : Cop) (b : X) : Op × Env → Res (DF × Env) := fun x => (opX G b x.2).bind (kCmp2 o x.1)
def kIx2 (x : Op) : Op × Env → Res (DF × Env) := fun y => (readO x y.2).bind fun p => (readO y.1 y.2).bind fun q => (Res.of (ixD p q)).bind fun r => .ok ((r, false), y.2)
def kIx (b : X) : Op × Env → Res (DF × Env) := fun x => (opX G b x.2).bind (kIx2 x.1)
def kNeg : DF × Env → Res (DF × Env) := fun x => match x.1.1 with
  | .int i => .ok ((.int (-i), false), x.2)
  | _ => .bad
def kNot : DF × Env → Res (DF × Env) := fun x => (tst x.1.1).bind fun b => .ok ((.bl (!b), false), x.2)
def kAnd2 (b : X) (e : Env) : Bool → Res (DF × Env) := fun t => match t with
  | true => evX G b e
  | false => .ok ((.bl false, false), e)
def kAnd (b : X) : DF × Env → Res (DF × Env) := fun x => (tst x.1.1).bind (kAnd2 G b x.2)
def kOr2 (b : X) (e : Env) : Bool → Res (DF × Env) := fun t => match t with
  | true => .ok ((.bl true, false), e)
  | false => evX G b e
def kOr (b : X) : DF × Env → Res (DF × Env) := fun x => (tst x.1.1).bind (kOr2 G b x.2)
def kIte2 (a b : X) (e : Env) : Bool → Res (DF × Env) := fun t => match t with
  | true => evX G a e
  | false => evX G b e
def kIte (a b : X) : DF × Env → Res (DF × Env) := fun x => (tst x.1.1).bind (kIte2 G a b x.2)
def kCh4 (p : Cop) (y : D) : DF × Env → Res (DF × Env) := fun z => (Res.of (cmpI p y z.1.1)).bind fun r => .ok ((.bl r, false), z.2)
def kCh3 (p : Cop) (c : X) (y : D) (e : Env) : Bool → Res (DF × Env) := fun t => match t with
  | true => (evX G c e).bind (kCh4 p y)
  | false => .ok ((.bl false, false), e)
def kCh2 (o p : Cop) (c : X) (x : D) : DF × Env → Res (DF × Env) := fun y => (Res.of (cmpI o x y.1.1)).bind (kCh3 G p c y.1.1 y.2)
def kCh (o p : Cop) (b c : X) : DF × Env → Res (DF × Env) := fun x => (evX G b x.2).bind (kCh2 G o p c x.1.1)
def kTup : List D × Env → Res (DF × Env) := fun r => if r.1.length ≤ line then .ok ((.tup r.1, false), r.2) else .bad
def kLst : List D × Env → Res (DF × Env) := fun r => if r.1.length ≤ line then .ok ((.lst r.1, true), r.2) else .bad
def kSl3 (lo hi : X) (x : Op) (l : D) : DF × Env → Res (DF × Env) := fun h => (readO x h.2).bind fun p => (optI lo l).bind fun i => (optI hi h.1.1).bind fun j => (Res.of (slD p i j)).bind fun r => .ok (r, h.2)
def kSl2 (lo hi : X) (x : Op) : DF × Env → Res (DF × Env) := fun l => (evX G hi l.2).bind (kSl3 lo hi x l.1.1)
def kSl (lo hi : X) : Op × Env → Res (DF × Env) := fun x => (evX G lo x.2).bind (kSl2 G lo hi x.1)
def kCall2 (e : Env) : D × Bool × D → Res (DF × Env) := fun q => .ok ((q.1, q.2.1), e)
def kCall (f : Nat) : List D × Env → Res (DF × Env) := fun r => (G.F f r.1).bind (kCall2 r.2)
def kIo (f i : Nat) : List D × Env → Res (DF × Env) := fun r => callIo G f i r.1 r.2
def kBack (i : Nat) (e : Env) : D × Bool × D → Res (DF × Env) := fun q => backIo i e q
def kBi2 (f : Bi) (e : Env) : List D → Res (DF × Env) := fun ds => (Res.of (biD f ds)).bind (kDF e)
def kBi (f : Bi) : List Op × Env → Res (DF × Env) := fun r => (readOs r.1 r.2).bind (kBi2 f r.2)
def kMt3 (m : Mt) (p0 p : D) (e : Env) : List D → Res (DF × Env) := fun ds => if knd p0 = knd p then (Res.of (mtD m p ds)).bind fun q => .ok (q, e) else .bad
def kMt2 (m : Mt) (x : Op) (p0 : D) : List Op × Env → Res (DF × Env) := fun r => (readO x r.2).bind fun p => (readOs r.1 r.2).bind (kMt3 m p0 p r.2)
def kMt1 (m : Mt) (es : List X) (x : Op) (e : Env) : D → Res (DF × Env) := fun p0 => (evOs G es e).bind (kMt2 m x p0)
def kMt (m : Mt) (es : List X) : Op × Env → Res (DF × Env) := fun x => (readO x.1 x.2).bind (kMt1 G m es x.1 x.2)
def tF (t : Tg) : D → Env → Res Env := fun d e => asg t d false e
def iF (ifs : List X) : Env → Res (Bool × Env) := fun e => evTs G ifs e
def xF (x : X) : Env → Res (DF × Env) := fun e => evX G x e
def kCo3 (e : Env) (vs : List Nat) : List D × Env → Res (DF × Env) := fun q => if q.1.length ≤ line then .ok ((.lst q.1, true), backE e q.2 vs) else .bad
def kCo2 (t : Tg) (ifs : List X) (elt : X) (e : Env) : List D → Res (DF × Env) := fun ds => (noEx (compL t.slots (tF t) (iF G ifs) (xF G elt) ds (wipeE e t.slots))).bind (kCo3 e t.slots)
def kCo (t : Tg) (ifs : List X) (elt : X) : DF × Env → Res (DF × Env) := fun r => (items r.1.1).bind (kCo2 G t ifs elt r.2)
def kRng : List D × Env → Res (DF × Env) := fun r => match r.1 with
  | [.int n] => if rngOk n then .ok ((.lst (rangeD 0 n.toNat), true), r.2) else .bad
  | [.int a, .int b] => if rngOk a && rngOk b then .ok ((.lst (rangeD a (b - a).toNat), true), r.2) else .bad
  | _ => .bad
def kZip2 (x : D) : DF × Env → Res (DF × Env) := fun y => (items x).bind fun xs => (items y.1.1).bind fun ys => .ok ((.lst (zipD xs ys), true), y.2)
def kZip (b : X) : DF × Env → Res (DF × Env) := fun x => (evX G b x.2).bind (kZip2 x.1.1)
def kEnum : DF × Env → Res (DF × Env) := fun x => (items x.1.1).bind fun xs => .ok ((.lst (enumD 0 xs), true), x.2)
def kXs2 (d : D) : List D × Env → Res (List D × Env) := fun q => .ok (d :: q.1, q.2)
def kXs (xs : List X) : DF × Env → Res (List D × Env) := fun r => (evXs G xs r.2).bind (kXs2 r.1.1)
def kOs2 (o : Op) : List Op × Env → Res (List Op × Env) := fun q => .ok (o :: q.1, q.2)
def kOs (xs : List X) : Op × Env → Res (List Op × Env) := fun r => (evOs G xs r.2).bind (kOs2 r.1)
def kPs2 (r : DF) : List DF × Env → Res (List DF × Env) := fun q => .ok (r :: q.1, q.2)
def kPs (xs : List X) : DF × Env → Res (List DF × Env) := fun r => (evPs G xs r.2).bind (kPs2 r.1)
def kTs2 (xs : List X) (e : Env) : Bool → Res (Bool × Env) := fun b => match b with
  | true => evTs G xs e
  | false => .ok (false, e)
def kTs (xs : List X) : DF × Env → Res (Bool × Env) := fun r => (tst r.1.1).bind (kTs2 G xs r.2)
theorem evX_v (i : Nat) (env : Env) : evX G (.v i) env = useV i env := rfl
@[simp] theorem evX_c (d : D) (env : Env) : evX G (.c d) env = .ok ((d, false), env) := rfl
@[simp] theorem opX_v (i : Nat) (env : Env) : opX G (.v i) env = match at_ env i with
  | some _ => .ok (.inr i, env)
  | none => .bad := rfl
@[simp] theorem opX_c (d : D) (env : Env) : opX G (.c d) env = .ok (.inl d, env) := rfl
@[simp] theorem opX_bin (o : Bop) (a b : X) (env : Env) : opX G (.bin o a b) env = (evX G (.bin o a b) env).bind kOp := rfl
@[simp] theorem opX_neg (a : X) (env : Env) : opX G (.neg a) env = (evX G (.neg a) env).bind kOp := rfl
@[simp] theorem opX_cmp (o : Cop) (a b : X) (env : Env) : opX G (.cmp o a b) env = (evX G (.cmp o a b) env).bind kOp := rfl
@[simp] theorem opX_not (a : X) (env : Env) : opX G (.not a) env = (evX G (.not a) env).bind kOp := rfl
@[simp] theorem opX_and (a b : X) (env : Env) : opX G (.and a b) env = (evX G (.and a b) env).bind kOp := rfl
@[simp] theorem opX_or (a b : X) (env : Env) : opX G (.or a b) env = (evX G (.or a b) env).bind kOp := rfl
@[simp] theorem opX_chain (o p : Cop) (a b c : X) (env : Env) : opX G (.chain o p a b c) env = (evX G (.chain o p a b c) env).bind kOp := rfl
@[simp] theorem opX_ite (c a b : X) (env : Env) : opX G (.ite c a b) env = (evX G (.ite c a b) env).bind kOp := rfl
@[simp] theorem opX_tup (es : List X) (env : Env) : opX G (.tup es) env = (evX G (.tup es) env).bind kOp := rfl
@[simp] theorem opX_lst (es : List X) (env : Env) : opX G (.lst es) env = (evX G (.lst es) env).bind kOp := rfl
@[simp] theorem opX_ix (a b : X) (env : Env) : opX G (.ix a b) env = (evX G (.ix a b) env).bind kOp := rfl
@[simp] theorem opX_sl (a b c : X) (env : Env) : opX G (.sl a b c) env = (evX G (.sl a b c) env).bind kOp := rfl
@[simp] theorem opX_call (f : Nat) (es : List X) (env : Env) : opX G (.call f es) env = (evX G (.call f es) env).bind kOp := rfl
@[simp] theorem opX_bi (f : Bi) (es : List X) (env : Env) : opX G (.bi f es) env = (evX G (.bi f es) env).bind kOp := rfl
@[simp] theorem opX_mt (m : Mt) (o : X) (es : List X) (env : Env) : opX G (.mt m o es) env = (evX G (.mt m o es) env).bind kOp := rfl
@[simp] theorem opX_comp (t : Tg) (it : X) (ifs : List X) (e : X) (env : Env) : opX G (.comp t it ifs e) env = (evX G (.comp t it ifs e) env).bind kOp := rfl
@[simp] theorem kOp_ok (r : DF) (e : Env) : kOp (r, e) = .ok (.inl r.1, e) := rfl
@[simp] theorem evX_bin (o : Bop) (a b : X) (env : Env) : evX G (.bin o a b) env = (opX G a env).bind (kBin G o b) := rfl
@[simp] theorem kBin_ok (o : Bop) (b : X) (x : Op) (e : Env) : kBin G o b (x, e) = (opX G b e).bind (kBin2 o x) := rfl
@[simp] theorem kBin2_ok (o : Bop) (x y : Op) (e : Env) : kBin2 o x (y, e) = (readO x e).bind fun p => (readO y e).bind fun q => (Res.of (binD o p q)).bind fun r => .ok (r, e) := rfl
@[simp] theorem evX_cmp (o : Cop) (a b : X) (env : Env) : evX G (.cmp o a b) env = (opX G a env).bind (kCmp G o b) := rfl
@[simp] theorem kCmp_ok (o : Cop) (b : X) (x : Op) (e : Env) : kCmp G o b (x, e) = (opX G b e).bind (kCmp2 o x) := rfl
@[simp] theorem kCmp2_ok (o : Cop) (x y : Op) (e : Env) : kCmp2 o x (y, e) = (readO x e).bind fun p => (readO y e).bind fun q => (Res.of (cmpD o p q)).bind fun r => .ok ((.bl r, false), e) := rfl
@[simp] theorem evX_ix (a b : X) (env : Env) : evX G (.ix a b) env = (opX G a env).bind (kIx G b) := rfl
@[simp] theorem kIx_ok (b : X) (x : Op) (e : Env) : kIx G b (x, e) = (opX G b e).bind (kIx2 x) := rfl
@[simp] theorem kIx2_ok (x y : Op) (e : Env) : kIx2 x (y, e) = (readO x e).bind fun p => (readO y e).bind fun q => (Res.of (ixD p q)).bind fun r => .ok ((r, false), e) := rfl
@[simp] theorem evX_neg (a : X) (env : Env) : evX G (.neg a) env = (evX G a env).bind kNeg := rfl
@[simp] theorem kNeg_ok (i : Int) (f : Bool) (e : Env) : kNeg ((.int i, f), e) = .ok ((.int (-i), false), e) := rfl
@[simp] theorem evX_not (a : X) (env : Env) : evX G (.not a) env = (evX G a env).bind kNot := rfl
@[simp] theorem kNot_ok (b f : Bool) (e : Env) : kNot ((.bl b, f), e) = .ok ((.bl (!b), false), e) := rfl
@[simp] theorem evX_and (a b : X) (env : Env) : evX G (.and a b) env = (evX G a env).bind (kAnd G b) := rfl
@[simp] theorem kAnd_ok (b : X) (t f : Bool) (e : Env) : kAnd G b ((.bl t, f), e) = kAnd2 G b e t := rfl
@[simp] theorem kAnd2_t (b : X) (e : Env) : kAnd2 G b e true = evX G b e := rfl
@[simp] theorem kAnd2_f (b : X) (e : Env) : kAnd2 G b e false = .ok ((.bl false, false), e) := rfl
@[simp] theorem evX_or (a b : X) (env : Env) : evX G (.or a b) env = (evX G a env).bind (kOr G b) := rfl
@[simp] theorem kOr_ok (b : X) (t f : Bool) (e : Env) : kOr G b ((.bl t, f), e) = kOr2 G b e t := rfl
@[simp] theorem kOr2_t (b : X) (e : Env) : kOr2 G b e true = .ok ((.bl true, false), e) := rfl
@[simp] theorem kOr2_f (b : X) (e : Env) : kOr2 G b e false = evX G b e := rfl
@[simp] theorem evX_ite (c a b : X) (env : Env) : evX G (.ite c a b) env = (evX G c env).bind (kIte G a b) := rfl
@[simp] theorem kIte_ok (a b : X) (t f : Bool) (e : Env) : kIte G a b ((.bl t, f), e) = kIte2 G a b e t := rfl
@[simp] theorem kIte2_t (a b : X) (e : Env) : kIte2 G a b e true = evX G a e := rfl
@[simp] theorem kIte2_f (a b : X) (e : Env) : kIte2 G a b e false = evX G b e := rfl
@[simp] theorem evX_chain (o p : Cop) (a b c : X) (env : Env) : evX G (.chain o p a b c) env = (evX G a env).bind (kCh G o p b c) := rfl
@[simp] theorem kCh_ok (o p : Cop) (b c : X) (d : D) (f : Bool) (e : Env) : kCh G o p b c ((d, f), e) = (evX G b e).bind (kCh2 G o p c d) := rfl
@[simp] theorem kCh2_ok (o p : Cop) (c : X) (d y : D) (f : Bool) (e : Env) : kCh2 G o p c d ((y, f), e) = (Res.of (cmpI o d y)).bind (kCh3 G p c y e) := rfl
@[simp] theorem kCh3_t (p : Cop) (c : X) (y : D) (e : Env) : kCh3 G p c y e true = (evX G c e).bind (kCh4 p y) := rfl
@[simp] theorem kCh3_f (p : Cop) (c : X) (y : D) (e : Env) : kCh3 G p c y e false = .ok ((.bl false, false), e) := rfl
@[simp] theorem kCh4_ok (p : Cop) (y z : D) (f : Bool) (e : Env) : kCh4 p y ((z, f), e) = (Res.of (cmpI p y z)).bind fun r => .ok ((.bl r, false), e) := rfl
@[simp] theorem evX_tup (es : List X) (env : Env) : evX G (.tup es) env = (evXs G es env).bind kTup := rfl
@[simp] theorem kTup_ok (ds : List D) (e : Env) : kTup (ds, e) = if ds.length ≤ line then .ok ((.tup ds, false), e) else .bad := rfl
@[simp] theorem evX_lst (es : List X) (env : Env) : evX G (.lst es) env = (evXs G es env).bind kLst := rfl
@[simp] theorem kLst_ok (ds : List D) (e : Env) : kLst (ds, e) = if ds.length ≤ line then .ok ((.lst ds, true), e) else .bad := rfl
@[simp] theorem evX_no (env : Env) : evX G .no env = .ok ((.non, false), env) := rfl
@[simp] theorem evX_sl (a lo hi : X) (env : Env) : evX G (.sl a lo hi) env = (opX G a env).bind (kSl G lo hi) := rfl
@[simp] theorem kSl_ok (lo hi : X) (x : Op) (e : Env) : kSl G lo hi (x, e) = (evX G lo e).bind (kSl2 G lo hi x) := rfl
@[simp] theorem kSl2_ok (lo hi : X) (x : Op) (l : D) (f : Bool) (e : Env) : kSl2 G lo hi x ((l, f), e) = (evX G hi e).bind (kSl3 lo hi x l) := rfl
@[simp] theorem kSl3_ok (lo hi : X) (x : Op) (l h : D) (f : Bool) (e : Env) : kSl3 lo hi x l ((h, f), e) = (readO x e).bind fun p => (optI lo l).bind fun i => (optI hi h).bind fun j => (Res.of (slD p i j)).bind fun r => .ok (r, e) := rfl
theorem evX_call (f : Nat) (es : List X) (env : Env) (h : G.io f = false) : evX G (.call f es) env = (evXs G es env).bind (kCall G f) := by
  rw [evX, h]
  rfl
theorem evX_callIo (f i : Nat) (es : List X) (env : Env) (h : G.io f = true) : evX G (.call f (.v i :: es)) env = match at_ env i with
  | some _ => (evXs G es env).bind (kIo G f i)
  | none => .bad := by
  rw [evX, h]
  rfl
@[simp] theorem kCall_ok (f : Nat) (ds : List D) (e : Env) : kCall G f (ds, e) = (G.F f ds).bind (kCall2 e) := rfl
@[simp] theorem kCall2_ok (d l : D) (f : Bool) (e : Env) : kCall2 e (d, f, l) = .ok ((d, f), e) := rfl
@[simp] theorem kIo_ok (f i : Nat) (ds : List D) (e : Env) : kIo G f i (ds, e) = callIo G f i ds e := rfl
theorem callIo_o (f i : Nat) (ds : List D) (e : Env) (d : D) (h : at_ e i = some (.o, d)) : callIo G f i ds e = (G.F f (d :: ds)).bind (kBack i e) := by
  unfold callIo
  rw [h]
  rfl
theorem callIo_io (f i : Nat) (ds : List D) (e : Env) (d : D) (h : at_ e i = some (.io, d)) : callIo G f i ds e = (G.F f (d :: ds)).bind (kBack i e) := by
  unfold callIo
  rw [h]
  rfl
@[simp] theorem kBack_ok (i : Nat) (e : Env) (d l : D) (f : Bool) : kBack i e (d, f, l) = match at_ e i with
  | some (k, _) => .ok ((d, f), put e i (some (k, l)))
  | none => .bad := rfl
@[simp] theorem evX_bi (f : Bi) (es : List X) (env : Env) : evX G (.bi f es) env = (evOs G es env).bind (kBi f) := rfl
@[simp] theorem kBi_ok (f : Bi) (os : List Op) (e : Env) : kBi f (os, e) = (readOs os e).bind (kBi2 f e) := rfl
@[simp] theorem kBi2_ok (f : Bi) (ds : List D) (e : Env) : kBi2 f e ds = (Res.of (biD f ds)).bind (kDF e) := rfl
@[simp] theorem kDF_ok (r : DF) (e : Env) : kDF e r = .ok (r, e) := rfl
@[simp] theorem evX_mt (m : Mt) (o : X) (es : List X) (env : Env) : evX G (.mt m o es) env = (opX G o env).bind (kMt G m es) := rfl
@[simp] theorem kMt_ok (m : Mt) (es : List X) (x : Op) (e : Env) : kMt G m es (x, e) = (readO x e).bind (kMt1 G m es x e) := rfl
@[simp] theorem kMt1_ok (m : Mt) (es : List X) (x : Op) (e : Env) (p : D) : kMt1 G m es x e p = (evOs G es e).bind (kMt2 m x p) := rfl
@[simp] theorem kMt2_ok (m : Mt) (x : Op) (p0 : D) (os : List Op) (e : Env) : kMt2 m x p0 (os, e) = (readO x e).bind fun p => (readOs os e).bind (kMt3 m p0 p e) := rfl
@[simp] theorem kMt3_ok (m : Mt) (p0 p : D) (ds : List D) (e : Env) : kMt3 m p0 p e ds = if knd p0 = knd p then (Res.of (mtD m p ds)).bind fun q => .ok (q, e) else .bad := rfl
@[simp] theorem evX_comp (t : Tg) (it : X) (ifs : List X) (x : X) (env : Env) : evX G (.comp t it ifs x) env = (evX G it env).bind (kCo G t ifs x) := rfl
@[simp] theorem kCo_ok (t : Tg) (ifs : List X) (x : X) (d : D) (f : Bool) (e : Env) : kCo G t ifs x ((d, f), e) = (items d).bind (kCo2 G t ifs x e) := rfl
@[simp] theorem kCo2_ok (t : Tg) (ifs : List X) (x : X) (ds : List D) (e : Env) : kCo2 G t ifs x e ds = (noEx (compL t.slots (tF t) (iF G ifs) (xF G x) ds (wipeE e t.slots))).bind (kCo3 e t.slots) := rfl
@[simp] theorem kCo3_ok (e e2 : Env) (vs : List Nat) (ds : List D) : kCo3 e vs (ds, e2) = if ds.length ≤ line then .ok ((.lst ds, true), backE e e2 vs) else .bad := rfl
@[simp] theorem noEx_okE {α : Type} (a : α) : noEx (.ok a) = .ok a := rfl
@[simp] theorem evX_rng (es : List X) (env : Env) : evX G (.rng es) env = (evXs G es env).bind kRng := rfl
@[simp] theorem kRng_1 (k : Int) (e : Env) : kRng ([.int k], e) = if rngOk k then .ok ((.lst (rangeD 0 k.toNat), true), e) else .bad := rfl
@[simp] theorem kRng_2 (a b : Int) (e : Env) : kRng ([.int a, .int b], e) = if rngOk a && rngOk b then .ok ((.lst (rangeD a (b - a).toNat), true), e) else .bad := rfl
@[simp] theorem evX_zip (a b : X) (env : Env) : evX G (.zip a b) env = (evX G a env).bind (kZip G b) := rfl
@[simp] theorem kZip_ok (b : X) (d : D) (f : Bool) (e : Env) : kZip G b ((d, f), e) = (evX G b e).bind (kZip2 d) := rfl
@[simp] theorem kZip2_ok (x y : D) (f : Bool) (e : Env) : kZip2 x ((y, f), e) = (items x).bind fun xs => (items y).bind fun ys => .ok ((.lst (zipD xs ys), true), e) := rfl
@[simp] theorem evX_enum (a : X) (env : Env) : evX G (.enum a) env = (evX G a env).bind kEnum := rfl
@[simp] theorem kEnum_ok (d : D) (f : Bool) (e : Env) : kEnum ((d, f), e) = (items d).bind fun xs => .ok ((.lst (enumD 0 xs), true), e) := rfl
@[simp] theorem items_lst (xs : List D) : items (.lst xs) = .ok xs := rfl
@[simp] theorem items_tup (xs : List D) : items (.tup xs) = .ok xs := rfl
@[simp] theorem items_str (s : List Nat) : items (.str s) = .ok (s.map fun c => .str [c]) := rfl
@[simp] theorem evXs_nil (env : Env) : evXs G [] env = .ok ([], env) := rfl
@[simp] theorem evXs_cons (x : X) (xs : List X) (env : Env) : evXs G (x :: xs) env = (evX G x env).bind (kXs G xs) := rfl
@[simp] theorem kXs_ok (xs : List X) (d : D) (f : Bool) (e : Env) : kXs G xs ((d, f), e) = (evXs G xs e).bind (kXs2 d) := rfl
@[simp] theorem kXs2_ok (d : D) (ds : List D) (e : Env) : kXs2 d (ds, e) = .ok (d :: ds, e) := rfl
@[simp] theorem evOs_nil (env : Env) : evOs G [] env = .ok ([], env) := rfl
@[simp] theorem evOs_cons (x : X) (xs : List X) (env : Env) : evOs G (x :: xs) env = (opX G x env).bind (kOs G xs) := rfl
@[simp] theorem kOs_ok (xs : List X) (o : Op) (e : Env) : kOs G xs (o, e) = (evOs G xs e).bind (kOs2 o) := rfl
@[simp] theorem kOs2_ok (o : Op) (os : List Op) (e : Env) : kOs2 o (os, e) = .ok (o :: os, e) := rfl
@[simp] theorem evPs_nil (env : Env) : evPs G [] env = .ok ([], env) := rfl
@[simp] theorem evPs_cons (x : X) (xs : List X) (env : Env) : evPs G (x :: xs) env = (evX G x env).bind (kPs G xs) := rfl
@[simp] theorem kPs_ok (xs : List X) (r : DF) (e : Env) : kPs G xs (r, e) = (evPs G xs e).bind (kPs2 r) := rfl
@[simp] theorem kPs2_ok (r : DF) (ds : List DF) (e : Env) : kPs2 r (ds, e) = .ok (r :: ds, e) := rfl
@[simp] theorem evTs_nil (env : Env) : evTs G [] env = .ok (true, env) := rfl
@[simp] theorem evTs_cons (x : X) (xs : List X) (env : Env) : evTs G (x :: xs) env = (evX G x env).bind (kTs G xs) := rfl
@[simp] theorem kTs_ok (xs : List X) (t f : Bool) (e : Env) : kTs G xs ((.bl t, f), e) = kTs2 G xs e t := rfl
@[simp] theorem kTs2_t (xs : List X) (e : Env) : kTs2 G xs e true = evTs G xs e := rfl
@[simp] theorem kTs2_f (xs : List X) (e : Env) : kTs2 G xs e false = .ok (false, e) := rfl
@[simp] theorem readO_l (d : D) (e : Env) : readO (.inl d) e = .ok d := rfl
@[simp] theorem readO_r (i : Nat) (e : Env) : readO (.inr i) e = match at_ e i with
  | some (_, d) => .ok d
  | none => .bad := rfl
@[simp] theorem readOs_nil (e : Env) : readOs [] e = .ok [] := rfl
@[simp] theorem readOs_cons (o : Op) (os : List Op) (e : Env) : readOs (o :: os) e = (readO o e).bind fun d => (readOs os e).bind fun ds => .ok (d :: ds) := rfl
@[simp] theorem at_0 (a : Slot) (r : Env) : at_ (a :: r) 0 = a := rfl
@[simp] theorem at_s (a : Slot) (r : Env) (i : Nat) : at_ (a :: r) (i + 1) = at_ r i := rfl
@[simp] theorem put_0 (a : Slot) (r : Env) (x : Slot) : put (a :: r) 0 x = x :: r := rfl
@[simp] theorem put_s (a : Slot) (r : Env) (i : Nat) (x : Slot) : put (a :: r) (i + 1) x = a :: put r i x := rfl
theorem useV_f {i : Nat} {e : Env} {d : D} (h : at_ e i = some (.f, d)) : useV i e = .ok ((d, false), e) := by unfold useV; rw [h]
theorem useV_o {i : Nat} {e : Env} {d : D} (h : at_ e i = some (.o, d)) : useV i e = .ok ((d, false), put e i (some (.f, d))) := by unfold useV; rw [h]
@[simp] theorem tF_app (t : Tg) (d : D) (e : Env) : tF t d e = asg t d false e := rfl
@[simp] theorem iF_app (ifs : List X) (e : Env) : iF G ifs e = evTs G ifs e := rfl
@[simp] theorem xF_app (x : X) (e : Env) : xF G x e = evX G x e := rfl
@[simp] theorem asg_nm (i : Nat) (d : D) (fr : Bool) (e : Env) : asg (.nm i) d fr e = .ok (put e i (some (if fr then .o else .f, d))) := rfl
@[simp] theorem asg_tp (ts : List Tg) (ds : List D) (fr : Bool) (e : Env) : asg (.tp ts) (.tup ds) fr e = asgL ts ds e := rfl
@[simp] theorem asgL_nil (e : Env) : asgL [] [] e = .ok e := rfl
@[simp] theorem asgL_cons (t : Tg) (ts : List Tg) (d : D) (ds : List D) (e : Env) : asgL (t :: ts) (d :: ds) e = (asg t d false e).bind fun e => asgL ts ds e := rfl
/-! ### statements -/
def cF (c : X) : Env → Res (Bool × Env) := fun e => (evX G c e).bind fun x => (tst x.1.1).bind fun t => .ok (t, x.2)
noncomputable def bF (b : List S) : Env → Res Out := fun e => evSs G b e
noncomputable def kSeq (ss : List S) : Out → Res Out := fun o => match o with
  | .nx env => evSs G ss env
  | o => .ok o
def kNx : Env → Res Out := fun e => .ok (.nx e)
def kSet (t : Tg) : DF × Env → Res Out := fun r => (asg t r.1.1 r.1.2 r.2).bind kNx
def kPar (is : List Nat) : List DF × Env → Res Out := fun r => if r.1.length ≤ line then (parL is r.1 r.2).bind kNx else .bad
def kEx : DF × Env → Res Out := fun r => .ok (.nx r.2)
def kRet : DF × Env → Res Out := fun r => .ok (.rt r.1.1 r.1.2 r.2)
def kApp (i : Nat) (d0 : D) : DF × Env → Res Out := fun r => if knd d0 = 2 then (chgE i (fun d => appD d r.1.1) r.2).bind kNx else .bad
def kSI2 (i : Nat) (r : D) : DF × Env → Res Out := fun q => (chgE i (fun d => setD d q.1.1 r) q.2).bind kNx
def kSI (i : Nat) (k : X) : DF × Env → Res Out := fun r => match at_ r.2 i with
  | some _ => (evX G k r.2).bind (kSI2 i r.1.1)
  | none => .bad
noncomputable def kIf2 (a b : List S) (e : Env) : Bool → Res Out := fun t => match t with
  | true => evSs G a e
  | false => evSs G b e
noncomputable def kIf (a b : List S) : DF × Env → Res Out := fun x => (tst x.1.1).bind (kIf2 G a b x.2)
noncomputable def kFr2 (t : Tg) (b : List S) (e : Env) : List D → Res Out := fun ds => forL (tF t) (bF G b) ds e
noncomputable def kFr (t : Tg) (b : List S) : DF × Env → Res Out := fun r => (items r.1.1).bind (kFr2 G t b r.2)
@[simp] theorem evSs_nil (env : Env) : evSs G [] env = .ok (.nx env) := rfl
@[simp] theorem evSs_cons (s : S) (ss : List S) (env : Env) : evSs G (s :: ss) env = (evS G s env).bind (kSeq G ss) := rfl
@[simp] theorem kSeq_nx (ss : List S) (e : Env) : kSeq G ss (.nx e) = evSs G ss e := rfl
@[simp] theorem kSeq_rt (ss : List S) (d : D) (f : Bool) (e : Env) : kSeq G ss (.rt d f e) = .ok (.rt d f e) := rfl
@[simp] theorem kNx_ok (e : Env) : kNx e = .ok (.nx e) := rfl
@[simp] theorem evS_set (t : Tg) (x : X) (env : Env) : evS G (.set t x) env = (evX G x env).bind (kSet t) := rfl
@[simp] theorem kSet_ok (t : Tg) (d : D) (f : Bool) (e : Env) : kSet t ((d, f), e) = (asg t d f e).bind kNx := rfl
@[simp] theorem evS_par (is : List Nat) (es : List X) (env : Env) : evS G (.par is es) env = (evPs G es env).bind (kPar is) := rfl
@[simp] theorem kPar_ok (is : List Nat) (ds : List DF) (e : Env) : kPar is (ds, e) = if ds.length ≤ line then (parL is ds e).bind kNx else .bad := rfl
@[simp] theorem parL_nil (e : Env) : parL [] [] e = .ok e := rfl
@[simp] theorem parL_cons (i : Nat) (is : List Nat) (d : D) (f : Bool) (ds : List DF) (e : Env) : parL (i :: is) ((d, f) :: ds) e = parL is ds (put e i (some (if f then .o else .f, d))) := rfl
@[simp] theorem evS_ex (x : X) (env : Env) : evS G (.ex x) env = (evX G x env).bind kEx := rfl
@[simp] theorem kEx_ok (r : DF) (e : Env) : kEx (r, e) = .ok (.nx e) := rfl
theorem evS_ret (x : X) (env : Env) (h : isName x = none) : evS G (.ret x) env = (evX G x env).bind kRet := by
  rw [evS, retX, h]
  rfl
theorem evS_retV {i : Nat} {d : D} {env : Env} (h : at_ env i = some (.f, d)) : evS G (.ret (.v i)) env = .ok (.rt d false env) := by
  rw [evS, retX]
  simp [isName, h]
theorem evS_retO {i : Nat} {d : D} {env : Env} (h : at_ env i = some (.o, d)) : evS G (.ret (.v i)) env = .ok (.rt d true env) := by
  rw [evS, retX]
  simp [isName, h]
@[simp] theorem kRet_ok (d : D) (f : Bool) (e : Env) : kRet ((d, f), e) = .ok (.rt d f e) := rfl
@[simp] theorem evS_iff (c : X) (a b : List S) (env : Env) : evS G (.iff c a b) env = (evX G c env).bind (kIf G a b) := rfl
@[simp] theorem kIf_ok (a b : List S) (t f : Bool) (e : Env) : kIf G a b ((.bl t, f), e) = kIf2 G a b e t := rfl
@[simp] theorem kIf2_t (a b : List S) (e : Env) : kIf2 G a b e true = evSs G a e := rfl
@[simp] theorem kIf2_f (a b : List S) (e : Env) : kIf2 G a b e false = evSs G b e := rfl
@[simp] theorem evS_whl (c : X) (b : List S) (env : Env) : evS G (.whl c b) env = whl (cF G c) (bF G b) env := rfl
@[simp] theorem evS_fr (t : Tg) (it : X) (b : List S) (env : Env) : evS G (.fr t it b) env = (evX G it env).bind (kFr G t b) := rfl
@[simp] theorem kFr_ok (t : Tg) (b : List S) (d : D) (f : Bool) (e : Env) : kFr G t b ((d, f), e) = (items d).bind (kFr2 G t b e) := rfl
@[simp] theorem kFr2_ok (t : Tg) (b : List S) (ds : List D) (e : Env) : kFr2 G t b e ds = forL (tF t) (bF G b) ds e := rfl
@[simp] theorem bF_app (b : List S) (e : Env) : bF G b e = evSs G b e := rfl
@[simp] theorem evS_pass (env : Env) : evS G .pass env = .ok (.nx env) := rfl
theorem evS_app {i : Nat} {x : X} {env : Env} {k : Ow} {d0 : D} (h : at_ env i = some (k, d0)) : evS G (.app i x) env = (evX G x env).bind (kApp i d0) := by
  rw [evS, h]
  rfl
@[simp] theorem kApp_ok (i : Nat) (d0 : D) (r : D) (f : Bool) (e : Env) : kApp i d0 ((r, f), e) = if knd d0 = 2 then (chgE i (fun d => appD d r) e).bind kNx else .bad := rfl
theorem evS_setIx (i : Nat) (k x : X) (env : Env) : evS G (.setIx i k x) env = (evX G x env).bind (kSI G i k) := rfl
@[simp] theorem kSI_ok (i : Nat) (k : X) (d : D) (f : Bool) (e : Env) : kSI G i k ((d, f), e) = match at_ e i with
  | some _ => (evX G k e).bind (kSI2 i d)
  | none => .bad := rfl
@[simp] theorem kSI2_ok (i : Nat) (r d : D) (f : Bool) (e : Env) : kSI2 i r ((d, f), e) = (chgE i (fun x => setD x d r) e).bind kNx := rfl
@[simp] theorem evS_raise (c : Nat) (es : List X) (env : Env) : evS G (.raise c es) env = .bad := rfl
noncomputable def kRun (df : Def) : Out → Res (D × Bool × D) := fun o => match o with
  | .rt d fr env => (lent df env).bind fun l => .ok (d, fr, l)
  | .nx env => (lent df env).bind fun l => .ok (.non, false, l)
  | _ => .bad
theorem run_eq (df : Def) (ds : List D) (h : ds.length = df.np) : run G df ds = (evSs G df.body (PK.start df ds)).bind (kRun df) := by
  unfold run
  rw [if_pos h]
  rfl
theorem kRun_0 {df : Def} (h : df.io = false) (d : D) (f : Bool) (e : Env) : kRun df (.rt d f e) = .ok (d, f, .non) := by
  unfold kRun lent
  rw [h]
  rfl
theorem kRun_n {df : Def} (h : df.io = false) (e : Env) : kRun df (.nx e) = .ok (.non, false, .non) := by
  unfold kRun lent
  rw [h]
  rfl
theorem kRun_io {df : Def} (h : df.io = true) (d l : D) (f : Bool) (e : Env) (h0 : at_ e 0 = some (.io, l)) : kRun df (.rt d f e) = .ok (d, f, l) := by
  show (lent df e).bind (fun l => .ok (d, f, l)) = _
  unfold lent
  rw [h, h0]
  rfl

def useS (i : Nat) : Slot → Env → Res (DF × Env)
  | some (.f, d), e => .ok ((d, false), e)
  | some (.o, d), e => .ok ((d, false), put e i (some (.f, d)))
  | _, _ => .bad
theorem useV_eq (i : Nat) (e : Env) : useV i e = useS i (at_ e i) e := by
  unfold useV useS
  split <;> simp_all
@[simp] theorem evX_vS (i : Nat) (env : Env) : evX G (.v i) env = useS i (at_ env i) env := by rw [evX_v, useV_eq]
@[simp] theorem useS_f (i : Nat) (d : D) (e : Env) : useS i (some (.f, d)) e = .ok ((d, false), e) := rfl
@[simp] theorem useS_o (i : Nat) (d : D) (e : Env) : useS i (some (.o, d)) e = .ok ((d, false), put e i (some (.f, d))) := rfl
def retS : Slot → Env → Res Out
  | some (.f, d), e => .ok (.rt d false e)
  | some (.o, d), e => .ok (.rt d true e)
  | _, _ => .bad
@[simp] theorem evS_retS (i : Nat) (env : Env) : evS G (.ret (.v i)) env = retS (at_ env i) env := by
  rw [evS, retX]
  unfold retS
  simp only [isName]
  split <;> simp_all
@[simp] theorem retS_f (d : D) (e : Env) : retS (some (.f, d)) e = .ok (.rt d false e) := rfl
@[simp] theorem retS_o (d : D) (e : Env) : retS (some (.o, d)) e = .ok (.rt d true e) := rfl
def ioS (G : Gl) (f i : Nat) (ds : List D) : Slot → Env → Res (DF × Env)
  | some (.f, _), _ => .bad
  | some (_, d), e => (G.F f (d :: ds)).bind (kBack i e)
  | none, _ => .bad
@[simp] theorem callIo_S (f i : Nat) (ds : List D) (e : Env) : callIo G f i ds e = ioS G f i ds (at_ e i) e := by
  unfold callIo ioS
  split <;> simp_all
  rfl
@[simp] theorem ioS_o (f i : Nat) (ds : List D) (d : D) (e : Env) : ioS G f i ds (some (.o, d)) e = (G.F f (d :: ds)).bind (kBack i e) := rfl
@[simp] theorem ioS_io (f i : Nat) (ds : List D) (d : D) (e : Env) : ioS G f i ds (some (.io, d)) e = (G.F f (d :: ds)).bind (kBack i e) := rfl
def chgS (i : Nat) (g : D → Option D) : Slot → Env → Res Env
  | some (.f, _), _ => .bad
  | some (k, d), e => (Res.of (g d)).bind fun d => .ok (put e i (some (k, d)))
  | none, _ => .bad
@[simp] theorem chgE_S (i : Nat) (g : D → Option D) (e : Env) : chgE i g e = chgS i g (at_ e i) e := by
  unfold chgE chgS
  split <;> simp_all
@[simp] theorem chgS_o (i : Nat) (g : D → Option D) (d : D) (e : Env) : chgS i g (some (.o, d)) e = (Res.of (g d)).bind fun d => .ok (put e i (some (.o, d))) := rfl
@[simp] theorem chgS_io (i : Nat) (g : D → Option D) (d : D) (e : Env) : chgS i g (some (.io, d)) e = (Res.of (g d)).bind fun d => .ok (put e i (some (.io, d))) := rfl
noncomputable def appS (G : Gl) (i : Nat) (x : X) : Slot → Env → Res Out
  | some (_, d0), e => (evX G x e).bind (kApp i d0)
  | none, _ => .bad
@[simp] theorem evS_appS (i : Nat) (x : X) (env : Env) : evS G (.app i x) env = appS G i x (at_ env i) env := by
  rw [evS]
  unfold appS
  cases at_ env i with
  | none => rfl
  | some y => rfl
@[simp] theorem appS_s (i : Nat) (x : X) (k : Ow) (d : D) (e : Env) : appS G i x (some (k, d)) e = (evX G x e).bind (kApp i d) := rfl
@[simp] theorem evS_setIx' (i : Nat) (k x : X) (env : Env) : evS G (.setIx i k x) env = (evX G x env).bind (kSI G i k) := rfl
def lentS : Slot → Res D
  | some (.io, d) => .ok d
  | _ => .bad
theorem lent_io {df : Def} (h : df.io = true) (e : Env) : lent df e = lentS (at_ e 0) := by
  unfold lent lentS
  rw [h]
  split <;> simp_all
@[simp] theorem lentS_io (d : D) : lentS (some (.io, d)) = .ok d := rfl
def kLent (d : D) (f : Bool) : D → Res (D × Bool × D) := fun l => .ok (d, f, l)
@[simp] theorem kLent_ok (d l : D) (f : Bool) : kLent d f l = .ok (d, f, l) := rfl
/-- the end of a def that borrows nothing, of one that borrows -/
def end0 : Out → Res (D × Bool × D)
  | .rt d fr _ => .ok (d, fr, .non)
  | .nx _ => .ok (.non, false, .non)
  | _ => .bad
def end1 : Out → Res (D × Bool × D)
  | .rt d fr e => (lentS (at_ e 0)).bind (kLent d fr)
  | .nx e => (lentS (at_ e 0)).bind (kLent .non false)
  | _ => .bad
@[simp] theorem end0_rt (d : D) (f : Bool) (e : Env) : end0 (.rt d f e) = .ok (d, f, .non) := rfl
@[simp] theorem end0_nx (e : Env) : end0 (.nx e) = .ok (.non, false, .non) := rfl
@[simp] theorem end1_rt (d : D) (f : Bool) (e : Env) : end1 (.rt d f e) = (lentS (at_ e 0)).bind (kLent d f) := rfl
@[simp] theorem end1_nx (e : Env) : end1 (.nx e) = (lentS (at_ e 0)).bind (kLent .non false) := rfl
theorem run0 (df : Def) (ds : List D) (h : ds.length = df.np) (hi : df.io = false) : run G df ds = (evSs G df.body (ds.map (fun d => some (.f, d)) ++ List.replicate (df.n - df.np) none)).bind end0 := by
  rw [run_eq G df ds h]
  have e : kRun df = end0 := by
    funext o
    cases o with
    | rt d f e => exact kRun_0 hi d f e
    | nx e => exact kRun_n hi e
    | bk e => rfl
    | ct e => rfl
  rw [e]
  unfold PK.start
  rw [hi]
theorem run1 (df : Def) (d0 : D) (ds : List D) (h : ds.length + 1 = df.np) (hi : df.io = true) : run G df (d0 :: ds) = (evSs G df.body (some (.io, d0) :: (ds.map (fun d => some (.f, d)) ++ List.replicate (df.n - df.np) none))).bind end1 := by
  rw [run_eq G df (d0 :: ds) h]
  have e : kRun df = end1 := by
    funext o
    cases o with
    | rt d f e => show (lent df e).bind _ = _; rw [lent_io hi]; rfl
    | nx e => show (lent df e).bind _ = _; rw [lent_io hi]; rfl
    | bk e => rfl
    | ct e => rfl
  rw [e]
  unfold PK.start
  rw [hi]
  rfl
/-- a def of the table -/
theorem sem0 (T : Tab) (n f : Nat) (df : Def) (ds : List D) (h : T.body f = some df) (hl : ds.length = df.np) (hi : df.io = false) : T.sem (n + 1) f ds = (evSs (T.gl n) df.body (ds.map (fun d => some (.f, d)) ++ List.replicate (df.n - df.np) none)).bind end0 := by
  rw [Tab.sem_succ T n f df ds h, run0 _ df ds hl hi]
theorem sem1 (T : Tab) (n f : Nat) (df : Def) (d0 : D) (ds : List D) (h : T.body f = some df) (hl : ds.length + 1 = df.np) (hi : df.io = true) : T.sem (n + 1) f (d0 :: ds) = (evSs (T.gl n) df.body (some (.io, d0) :: (ds.map (fun d => some (.f, d)) ++ List.replicate (df.n - df.np) none))).bind end1 := by
  rw [Tab.sem_succ T n f df _ h, run1 _ df d0 ds hl hi]
@[simp] theorem evS_ret_c (d : D) (env : Env) : evS G (.ret (.c d)) env = (evX G (.c d) env).bind kRet := rfl
@[simp] theorem evS_ret_bin (o : Bop) (a b : X) (env : Env) : evS G (.ret (.bin o a b)) env = (evX G (.bin o a b) env).bind kRet := rfl
@[simp] theorem evS_ret_neg (a : X) (env : Env) : evS G (.ret (.neg a)) env = (evX G (.neg a) env).bind kRet := rfl
@[simp] theorem evS_ret_not (a : X) (env : Env) : evS G (.ret (.not a)) env = (evX G (.not a) env).bind kRet := rfl
@[simp] theorem evS_ret_and (a b : X) (env : Env) : evS G (.ret (.and a b)) env = (evX G (.and a b) env).bind kRet := rfl
@[simp] theorem evS_ret_or (a b : X) (env : Env) : evS G (.ret (.or a b)) env = (evX G (.or a b) env).bind kRet := rfl
@[simp] theorem evS_ret_cmp (o : Cop) (a b : X) (env : Env) : evS G (.ret (.cmp o a b)) env = (evX G (.cmp o a b) env).bind kRet := rfl
@[simp] theorem evS_ret_chain (o p : Cop) (a b c : X) (env : Env) : evS G (.ret (.chain o p a b c)) env = (evX G (.chain o p a b c) env).bind kRet := rfl
@[simp] theorem evS_ret_ite (c a b : X) (env : Env) : evS G (.ret (.ite c a b)) env = (evX G (.ite c a b) env).bind kRet := rfl
@[simp] theorem evS_ret_tup (es : List X) (env : Env) : evS G (.ret (.tup es)) env = (evX G (.tup es) env).bind kRet := rfl
@[simp] theorem evS_ret_lst (es : List X) (env : Env) : evS G (.ret (.lst es)) env = (evX G (.lst es) env).bind kRet := rfl
@[simp] theorem evS_ret_ix (a b : X) (env : Env) : evS G (.ret (.ix a b)) env = (evX G (.ix a b) env).bind kRet := rfl
@[simp] theorem evS_ret_sl (a b c : X) (env : Env) : evS G (.ret (.sl a b c)) env = (evX G (.sl a b c) env).bind kRet := rfl
@[simp] theorem evS_ret_no  (env : Env) : evS G (.ret .no) env = (evX G .no env).bind kRet := rfl
@[simp] theorem evS_ret_call (f : Nat) (es : List X) (env : Env) : evS G (.ret (.call f es)) env = (evX G (.call f es) env).bind kRet := rfl
@[simp] theorem evS_ret_bi (f : Bi) (es : List X) (env : Env) : evS G (.ret (.bi f es)) env = (evX G (.bi f es) env).bind kRet := rfl
@[simp] theorem evS_ret_mt (m : Mt) (o : X) (es : List X) (env : Env) : evS G (.ret (.mt m o es)) env = (evX G (.mt m o es) env).bind kRet := rfl
@[simp] theorem evS_ret_comp (t : Tg) (it : X) (ifs : List X) (x : X) (env : Env) : evS G (.ret (.comp t it ifs x)) env = (evX G (.comp t it ifs x) env).bind kRet := rfl
@[simp] theorem wipeE_nil (e : Env) : wipeE e [] = e := rfl
@[simp] theorem wipeE_cons (e : Env) (v : Nat) (vs : List Nat) : wipeE e (v :: vs) = put (wipeE e vs) v none := rfl
@[simp] theorem backE_nil (e0 e : Env) : backE e0 e [] = e := rfl
@[simp] theorem backE_cons (e0 e : Env) (v : Nat) (vs : List Nat) : backE e0 e (v :: vs) = put (backE e0 e vs) v (at_ e0 v) := rfl
@[simp] theorem slots_nm (i : Nat) : (Tg.nm i).slots = [i] := rfl
@[simp] theorem slots_tp (ts : List Tg) : (Tg.tp ts).slots = slotsL ts := rfl
@[simp] theorem slotsL_nil : slotsL [] = [] := rfl
@[simp] theorem slotsL_cons (t : Tg) (ts : List Tg) : slotsL (t :: ts) = t.slots ++ slotsL ts := rfl
@[simp] theorem tst_bl (b : Bool) : tst (.bl b) = .ok b := rfl
@[simp] theorem gl_F (T : Tab) (n : Nat) : (T.gl n).F = T.sem n := rfl
theorem boolsD_map {α : Type} (f : α → Bool) : ∀ xs : List α, boolsD (xs.map fun x => D.bl (f x)) = some (xs.map f)
  | [] => rfl
  | x :: xs => by simp [boolsD, boolsD_map f xs]
theorem intsD_map {α : Type} (f : α → Int) : ∀ xs : List α, intsD (xs.map fun x => D.int (f x)) = some (xs.map f)
  | [] => rfl
  | x :: xs => by simp [intsD, intsD_map f xs]
/-- a comprehension over data, without tests, the names unchanged -/
theorem compD_map {g : D → D} {vs : List Nat} {ft : D → Env → Res Env} {fi : Env → Res (Bool × Env)} {fe : Env → Res (DF × Env)} {env : Env} : ∀ {xs : List D},
    (∀ x ∈ xs, ∃ env1 env2 fr env3, ft x env = .ok env1 ∧ fi env1 = .ok (true, env2) ∧ fe env2 = .ok ((g x, fr), env3) ∧ wipeE env3 vs = env) → compL vs ft fi fe xs env = .ok (xs.map g, env)
  | [], h => rfl
  | x :: xs, h => by
    obtain ⟨env1, env2, fr, env3, h1, h2, h3, h4⟩ := h x List.mem_cons_self
    have ih := compD_map (xs := xs) fun y hy => h y (List.mem_cons_of_mem _ hy)
    simp only [List.map_cons, compL, h1, h2, h3, h4, ih, Res.bindE]
def callS (G : Gl) (f : Nat) (es : List X) (env : Env) : Bool → Res (DF × Env)
  | false => (evXs G es env).bind (kCall G f)
  | true => match name1 es with
    | some i => (match at_ env i with
      | some _ => (evXt G es env).bind (kIo G f i)
      | none => .bad)
    | none => .bad
@[simp] theorem evX_callS (f : Nat) (es : List X) (env : Env) : evX G (.call f es) env = callS G f es env (G.io f) := by
  rw [evX]
  cases G.io f <;> rfl
@[simp] theorem callS_f (f : Nat) (es : List X) (env : Env) : callS G f es env false = (evXs G es env).bind (kCall G f) := rfl
@[simp] theorem callS_t (f i : Nat) (es : List X) (env : Env) : callS G f (.v i :: es) env true = match at_ env i with
  | some _ => (evXs G es env).bind (kIo G f i)
  | none => .bad := rfl
@[simp] theorem isiOk_non : isiOk .non = true := id rfl
@[simp] theorem isiOk_bl (b : Bool) : isiOk (.bl b) = true := id rfl
@[simp] theorem isiOk_int (i : Int) : isiOk (.int i) = true := id rfl
@[simp] theorem isiOk_str (s : List Nat) : isiOk (.str s) = true := id rfl
@[simp] theorem isiOk_tup (xs : List D) : isiOk (.tup xs) = true := id rfl
@[simp] theorem isiOk_lst (xs : List D) : isiOk (.lst xs) = true := id rfl
@[simp] theorem isiOk_dct (a b : List D) : isiOk (.dct a b) = false := id rfl
@[simp] theorem isiOk_obj (c : Nat) (b : List D) : isiOk (.obj c b) = false := id rfl
@[simp] theorem isiOk_scr (xs : List D) : isiOk (.scr xs) = false := id rfl
/-! ### built-ins, comparisons, places -/
@[simp] theorem len_lst (xs : List D) : biD .len [.lst xs] = some (.int xs.length, false) := rfl
@[simp] theorem len_scr (xs : List D) : biD .len [.scr xs] = some (.int xs.length, false) := rfl
@[simp] theorem len_tup (xs : List D) : biD .len [.tup xs] = some (.int xs.length, false) := rfl
@[simp] theorem len_str (s : List Nat) : biD .len [.str s] = if s.length ≤ line then some (.int s.length, false) else none := rfl
@[simp] theorem bi_isi (t : Ty) (d : D) : biD (.isi t) [d] = if isiOk d then some (.bl (isiD t d), false) else none := rfl
@[simp] theorem bi_tuple_l (xs : List D) : biD .tuple [.lst xs] = some (.tup xs, false) := rfl
@[simp] theorem bi_tuple_t (xs : List D) : biD .tuple [.tup xs] = some (.tup xs, false) := rfl
@[simp] theorem bi_list_l (xs : List D) : biD .list [.lst xs] = some (.lst xs, true) := rfl
@[simp] theorem bi_list_t (xs : List D) : biD .list [.tup xs] = some (.lst xs, true) := rfl
@[simp] theorem bi_abs (i : Int) : biD .abs [.int i] = some (.int i.natAbs, false) := by
  show some (D.int (if i < 0 then -i else i), false) = _
  congr 3
  split <;> omega
@[simp] theorem bi_min (i j : Int) : biD .min2 [.int i, .int j] = some (.int (if j < i then j else i), false) := rfl
@[simp] theorem bi_max (i j : Int) : biD .max2 [.int i, .int j] = some (.int (if j > i then j else i), false) := rfl
@[simp] theorem cmp_eq_int (i j : Int) : cmpD .eq (.int i) (.int j) = some (decide (i = j)) := by
  simp only [cmpD, shal, eqD, Bool.and_self, if_true]
  rw [Bool.beq_eq_decide_eq i j]
@[simp] theorem cmp_ne_int (i j : Int) : cmpD .ne (.int i) (.int j) = some (!decide (i = j)) := by
  simp only [cmpD, shal, eqD, Bool.and_self, if_true]
  rw [Bool.beq_eq_decide_eq i j]
@[simp] theorem cmp_lt_int (i j : Int) : cmpD .lt (.int i) (.int j) = some (decide (i < j)) := rfl
@[simp] theorem cmp_le_int (i j : Int) : cmpD .le (.int i) (.int j) = some (decide (i ≤ j)) := rfl
@[simp] theorem cmp_gt_int (i j : Int) : cmpD .gt (.int i) (.int j) = some (decide (j < i)) := rfl
@[simp] theorem cmp_ge_int (i j : Int) : cmpD .ge (.int i) (.int j) = some (decide (j ≤ i)) := rfl
@[simp] theorem cmpI_eq (i j : Int) : cmpI .eq (.int i) (.int j) = some (decide (i = j)) := rfl
@[simp] theorem cmpI_lt (i j : Int) : cmpI .lt (.int i) (.int j) = some (decide (i < j)) := rfl
@[simp] theorem cmpI_le (i j : Int) : cmpI .le (.int i) (.int j) = some (decide (i ≤ j)) := rfl
@[simp] theorem bin_add_int (i j : Int) : binD .add (.int i) (.int j) = some (.int (i + j), false) := rfl
@[simp] theorem bin_sub_int (i j : Int) : binD .sub (.int i) (.int j) = some (.int (i - j), false) := rfl
theorem bin_mul_int (i j : Int) (h : mulOk i j = true) : binD .mul (.int i) (.int j) = some (.int (i * j), false) := by
  show (if mulOk i j then _ else _) = _
  rw [h]
  rfl
theorem bin_div_int (i j : Int) (h : j ≠ 0) : binD .div (.int i) (.int j) = some (.int (i.fdiv j), false) := by
  show (if j = 0 then _ else _) = _
  rw [if_neg h]
theorem bin_mod_int (i j : Int) (h : j ≠ 0) : binD .mod (.int i) (.int j) = some (.int (i.fmod j), false) := by
  show (if j = 0 then _ else _) = _
  rw [if_neg h]
@[simp] theorem ixD_tup (xs : List D) (i : Int) : ixD (.tup xs) (.int i) = atZ xs i := rfl
@[simp] theorem ixD_lst (xs : List D) (i : Int) : ixD (.lst xs) (.int i) = atZ xs i := rfl
@[simp] theorem ixD_scr (xs : List D) (i : Int) : ixD (.scr xs) (.int i) = atZ xs i := rfl
@[simp] theorem atZ_0 {α : Type} (x : α) (r : List α) : atZ (x :: r) 0 = some x := by
  simp [atZ, ixZ]
theorem atZ_nat {α : Type} (xs : List α) (i : Nat) : atZ xs (i : Int) = xs[i]? := by
  unfold atZ ixZ
  rw [if_pos (Int.natCast_nonneg i)]
  by_cases h : (i : Int) < xs.length
  · rw [if_pos h]
    simp
  · rw [if_neg h]
    have : xs.length ≤ i := by omega
    simp [this]
@[simp] theorem atZ_1 {α : Type} (x y : α) (r : List α) : atZ (x :: y :: r) 1 = some y := atZ_nat (x :: y :: r) 1
@[simp] theorem atZ_2 {α : Type} (x y z : α) (r : List α) : atZ (x :: y :: z :: r) 2 = some z := atZ_nat (x :: y :: z :: r) 2
theorem atZ_last {α : Type} (xs : List α) : atZ xs (-1) = xs.getLast? := by
  unfold atZ ixZ
  rw [if_neg (by decide)]
  cases xs with
  | nil => rfl
  | cons x r =>
    have h : -((x :: r).length : Int) ≤ -1 := by simp; omega
    rw [if_pos h, List.getLast?_eq_getElem?]
    have e : (-1 + ((x :: r).length : Int)).toNat = (x :: r).length - 1 := by simp; omega
    simp only [Option.bind_some]
    rw [e]
@[simp] theorem isi_int_non  : isiD .int .non = false := id rfl
@[simp] theorem isi_int_bl (b : Bool) : isiD .int (.bl b) = true := id rfl
@[simp] theorem isi_int_int (i : Int) : isiD .int (.int i) = true := id rfl
@[simp] theorem isi_int_str (s : List Nat) : isiD .int (.str s) = false := id rfl
@[simp] theorem isi_int_tup (xs : List D) : isiD .int (.tup xs) = false := id rfl
@[simp] theorem isi_int_lst (xs : List D) : isiD .int (.lst xs) = false := id rfl
@[simp] theorem isi_bool_non  : isiD .bool .non = false := id rfl
@[simp] theorem isi_bool_bl (b : Bool) : isiD .bool (.bl b) = true := id rfl
@[simp] theorem isi_bool_int (i : Int) : isiD .bool (.int i) = false := id rfl
@[simp] theorem isi_bool_str (s : List Nat) : isiD .bool (.str s) = false := id rfl
@[simp] theorem isi_bool_tup (xs : List D) : isiD .bool (.tup xs) = false := id rfl
@[simp] theorem isi_bool_lst (xs : List D) : isiD .bool (.lst xs) = false := id rfl
@[simp] theorem isi_str_non  : isiD .str .non = false := id rfl
@[simp] theorem isi_str_bl (b : Bool) : isiD .str (.bl b) = false := id rfl
@[simp] theorem isi_str_int (i : Int) : isiD .str (.int i) = false := id rfl
@[simp] theorem isi_str_str (s : List Nat) : isiD .str (.str s) = true := id rfl
@[simp] theorem isi_str_tup (xs : List D) : isiD .str (.tup xs) = false := id rfl
@[simp] theorem isi_str_lst (xs : List D) : isiD .str (.lst xs) = false := id rfl
@[simp] theorem isi_tuple_non  : isiD .tuple .non = false := id rfl
@[simp] theorem isi_tuple_bl (b : Bool) : isiD .tuple (.bl b) = false := id rfl
@[simp] theorem isi_tuple_int (i : Int) : isiD .tuple (.int i) = false := id rfl
@[simp] theorem isi_tuple_str (s : List Nat) : isiD .tuple (.str s) = false := id rfl
@[simp] theorem isi_tuple_tup (xs : List D) : isiD .tuple (.tup xs) = true := id rfl
@[simp] theorem isi_tuple_lst (xs : List D) : isiD .tuple (.lst xs) = false := id rfl
@[simp] theorem isi_list_non  : isiD .list .non = false := id rfl
@[simp] theorem isi_list_bl (b : Bool) : isiD .list (.bl b) = false := id rfl
@[simp] theorem isi_list_int (i : Int) : isiD .list (.int i) = false := id rfl
@[simp] theorem isi_list_str (s : List Nat) : isiD .list (.str s) = false := id rfl
@[simp] theorem isi_list_tup (xs : List D) : isiD .list (.tup xs) = false := id rfl
@[simp] theorem isi_list_lst (xs : List D) : isiD .list (.lst xs) = true := id rfl
end PK
end
section
set_option linter.all false
set_option maxRecDepth 100000
set_option maxHeartbeats 1000000
/-! PkM1: whole numbers, fractions, makes: what is recognized. -/
namespace PK
def frac (q : Rat) : D := .tup [.int q.num, .int q.den]
theorem emod_nat (a b : Nat) : (a : Int).fmod b = (a % b : Nat) := by
  rw [Int.fmod_eq_emod_of_nonneg _ (Int.natCast_nonneg b)]
  rfl
theorem abs_eq (a : Int) : (if a < 0 then -a else a) = (a.natAbs : Int) := by split <;> omega
theorem sem_divisor (n : Nat) (a b : Int) : tab.sem (n + 1) 2 [.int a, .int b] = .ok (.int (Int.gcd a b), false, .non) := by
  rw [sem0 tab n 2 b_2 _ rfl rfl rfl]
  have w := whl_gcd (fc := cF (tab.gl n) (.cmp .gt (.v 3) (.c (.int 0)))) (fb := bF (tab.gl n) [.par [2, 3] [(.v 3), (.bin .mod (.v 2) (.v 3))]])
    (E := fun x y => [some (.f, .int a), some (.f, .int b), some (.f, .int x), some (.f, .int y)]) (fun x y => ?_) (fun x y h => ?_) a.natAbs b.natAbs
  · simp [b_2, line, w, Int.gcd]
  · simp [cF]
  · have hy : y ≠ 0 := by omega
    simp [binD, hy, line, emod_nat]
def isInt : D → Bool
  | .int _ => true
  | _ => false
theorem sem_is_integer (n : Nat) (d : D) (h : isiOk d = true) : tab.sem (n + 1) 0 [d] = .ok (.bl (isInt d), false, .non) := by
  rw [sem0 tab n 0 b_0 _ rfl rfl rfl]
  cases d <;> simp [b_0, isInt] at h ⊢
def isBet (lo hi : Int) : D → Bool
  | .int i => decide (lo ≤ i) && decide (i ≤ hi)
  | _ => false
theorem sem_is_between (n : Nat) (d : D) (lo hi : Int) (h : isiOk d = true) : tab.sem (n + 2) 1 [d, .int lo, .int hi] = .ok (.bl (isBet lo hi d), false, .non) := by
  rw [sem0 tab (n + 1) 1 b_1 _ rfl rfl rfl]
  cases d with
  | int i =>
    by_cases h1 : lo ≤ i
    · simp [b_1, sem_is_integer, isInt, isBet, h1]
    · simp [b_1, sem_is_integer, isInt, isBet, h1]
  | _ => simp [b_1, sem_is_integer, isInt, isBet] at h ⊢
def gcdL : Nat → List Int → Nat
  | g, [] => g
  | g, i :: r => gcdL (Int.gcd g i) r
theorem sem_common (n : Nat) (xs : List Int) : tab.sem (n + 2) 3 [.tup (xs.map D.int)] = .ok (.int (gcdL 0 xs), false, .non) := by
  rw [sem0 tab (n + 1) 3 b_3 _ rfl rfl rfl]
  have w : ∀ (ws : List D) (xs : List Int) (g : Nat) (x : Slot), ∃ x', forL (tF (.nm 2)) (bF (tab.gl (n + 1)) [.set (.nm 1) (.call 2 [(.v 1), (.v 2)])]) (xs.map D.int) [some (.f, .tup ws), some (.f, .int g), x] = .ok (.nx [some (.f, .tup ws), some (.f, .int (gcdL g xs)), x']) := by
    intro ws xs
    induction xs with
    | nil => intro g x; exact ⟨x, rfl⟩
    | cons i xs ih =>
      intro g x
      obtain ⟨x', hx⟩ := ih (Int.gcd g i) (some (.f, .int i))
      refine ⟨x', ?_⟩
      simp [forL, sem_divisor, hx, gcdL]
  obtain ⟨x', hx⟩ := w (xs.map D.int) xs 0 none
  simp only [Int.ofNat_zero, Int.natCast_zero, Int.cast_ofNat_Int] at hx
  simp [b_3, hx]
/-! ### plain data, not deep, not long -/
mutual
def tame : Nat → D → Bool
  | _, .non => true
  | _, .bl _ => true
  | _, .int _ => true
  | _, .str s => s.all fun c => decide (c < 1114112)
  | n, .tup xs => match n with
    | 0 => false
    | m + 1 => decide (xs.length ≤ 1000) && tames m xs
  | n, .lst xs => match n with
    | 0 => false
    | m + 1 => decide (xs.length ≤ 1000) && tames m xs
  | _, .dct _ _ => false
  | _, .obj _ _ => false
  | _, .scr _ => false
def tames : Nat → List D → Bool
  | _, [] => true
  | n, x :: xs => tame n x && tames n xs
end
mutual
theorem tame_shal : ∀ {n : Nat} {d : D}, tame n d = true → shal n d = true
  | _, .non, _ => by simp [shal]
  | _, .bl _, _ => by simp [shal]
  | _, .int _, _ => by simp [shal]
  | _, .str _, h => by simpa [shal, tame] using h
  | 0, .tup xs, h => by simp [tame] at h
  | n + 1, .tup xs, h => by
    simp only [tame, Bool.and_eq_true] at h
    simp only [shal]
    exact tames_shals h.2
  | 0, .lst xs, h => by simp [tame] at h
  | n + 1, .lst xs, h => by
    simp only [tame, Bool.and_eq_true] at h
    simp only [shal]
    exact tames_shals h.2
  | _, .dct _ _, h => by simp [tame] at h
  | _, .obj _ _, h => by simp [tame] at h
  | _, .scr _, h => by simp [tame] at h
theorem tames_shals : ∀ {n : Nat} {xs : List D}, tames n xs = true → shals n xs = true
  | _, [], _ => by simp [shals]
  | n, x :: xs, h => by
    simp only [tames, Bool.and_eq_true] at h
    simp only [shals, Bool.and_eq_true]
    exact ⟨tame_shal h.1, tames_shals h.2⟩
end
mutual
theorem shal_up : ∀ {n m : Nat} {d : D}, n ≤ m → shal n d = true → shal m d = true
  | _, _, .non, _, _ => by simp [shal]
  | _, _, .bl _, _, _ => by simp [shal]
  | _, _, .int _, _, _ => by simp [shal]
  | _, _, .str _, _, h => by simpa [shal] using h
  | 0, _, .tup xs, _, h => by simp [shal] at h
  | n + 1, 0, .tup xs, k, h => by omega
  | n + 1, m + 1, .tup xs, k, h => by
    simp only [shal] at h ⊢
    exact shals_up (by omega) h
  | 0, _, .lst xs, _, h => by simp [shal] at h
  | n + 1, 0, .lst xs, k, h => by omega
  | n + 1, m + 1, .lst xs, k, h => by
    simp only [shal] at h ⊢
    exact shals_up (by omega) h
  | _, _, .dct _ _, _, h => by simp [shal] at h
  | _, _, .obj _ _, _, h => by simp [shal] at h
  | _, _, .scr _, _, h => by simp [shal] at h
theorem shals_up : ∀ {n m : Nat} {xs : List D}, n ≤ m → shals n xs = true → shals m xs = true
  | _, _, [], _, _ => by simp [shals]
  | n, m, x :: xs, k, h => by
    simp only [shals, Bool.and_eq_true] at h ⊢
    exact ⟨shal_up k h.1, shals_up k h.2⟩
end
theorem tame_isi {n : Nat} {d : D} (h : tame n d = true) : isiOk d = true := by
  cases d <;> first | rfl | (simp [tame] at h)
theorem tames_mem {n : Nat} : ∀ {xs : List D} {x : D}, tames n xs = true → x ∈ xs → tame n x = true
  | y :: ys, x, h, hx => by
    simp only [tames, Bool.and_eq_true] at h
    rcases List.mem_cons.mp hx with rfl | hx
    · exact h.1
    · exact tames_mem h.2 hx
theorem tames_of {n : Nat} : ∀ {xs : List D}, (∀ x ∈ xs, tame n x = true) → tames n xs = true
  | [], _ => by simp [tames]
  | x :: xs, h => by
    simp only [tames, Bool.and_eq_true]
    exact ⟨h x List.mem_cons_self, tames_of fun y hy => h y (List.mem_cons_of_mem _ hy)⟩
theorem tame_tup {n : Nat} {xs : List D} (h : tame (n + 1) (.tup xs) = true) : xs.length ≤ 1000 ∧ tames n xs = true := by
  simpa [tame] using h
theorem tame_lst {n : Nat} {xs : List D} (h : tame (n + 1) (.lst xs) = true) : xs.length ≤ 1000 ∧ tames n xs = true := by
  simpa [tame] using h
theorem tame_pos {n : Nat} {xs : List D} (h : tame n (.tup xs) = true) : ∃ m, n = m + 1 := by
  cases n with
  | zero => simp [tame] at h
  | succ m => exact ⟨m, rfl⟩
/-- all of .. -/
theorem all_bl {α : Type} (p : α → Bool) (xs : List α) : biD .all [.lst (xs.map fun x => D.bl (p x))] = some (.bl (xs.all p), false) := by
  simp only [biD, boolsD_map, Option.map_some, List.all_map]
  rfl
/-- [f(x) for x in xs], f a test by its number -/
theorem comp_test {n f v : Nat} {p : D → Bool} {xs : List D} {env : Env} {args : List X} (hv : wipeE env [v] = env) (h : ∀ x ∈ xs, evX (tab.gl n) (.call f args) (put env v (some (.f, x))) = .ok ((.bl (p x), false), put env v (some (.f, x)))) (hp : ∀ s, put (put env v s) v none = env) :
    compL [v] (tF (.nm v)) (iF (tab.gl n) []) (xF (tab.gl n) (.call f args)) xs env = .ok (xs.map fun x => .bl (p x), env) :=
  compD_map (g := fun x => .bl (p x)) fun x hx => ⟨put env v (some (.f, x)), put env v (some (.f, x)), false, put env v (some (.f, x)), rfl, rfl, h x hx, by simp only [wipeE_cons, wipeE_nil]; exact hp _⟩
theorem comp_val {n v : Nat} {g : D → D} {xs : List D} {env : Env} {elt : X} (h : ∀ x ∈ xs, ∃ fr, evX (tab.gl n) elt (put env v (some (.f, x))) = .ok ((g x, fr), put env v (some (.f, x)))) (hp : ∀ s, put (put env v s) v none = env) :
    compL [v] (tF (.nm v)) (iF (tab.gl n) []) (xF (tab.gl n) elt) xs env = .ok (xs.map g, env) :=
  compD_map (g := g) fun x hx => by
    obtain ⟨fr, e⟩ := h x hx
    exact ⟨put env v (some (.f, x)), put env v (some (.f, x)), fr, put env v (some (.f, x)), rfl, rfl, e, by simp only [wipeE_cons, wipeE_nil]; exact hp _⟩
def isFrac : D → Bool
  | .tup [.int a, .int b] => decide (1 ≤ b) && (Int.gcd a b == 1)
  | _ => false
theorem sem_is_fraction (n k : Nat) (d : D) (h : tame k d = true) : tab.sem (n + 2) 4 [d] = .ok (.bl (isFrac d), false, .non) := by
  rw [sem0 tab (n + 1) 4 b_4 _ rfl rfl rfl]
  cases d with
  | tup xs =>
    obtain ⟨k, rfl⟩ := tame_pos h
    obtain ⟨hl, ht⟩ := tame_tup h
    have hc : compL [1] (tF (.nm 1)) (iF (tab.gl (n + 1)) []) (xF (tab.gl (n + 1)) (.call 0 [.v 1])) xs [some (.f, .tup xs), none] = .ok (xs.map fun x => .bl (isInt x), [some (.f, .tup xs), none]) :=
      comp_test (by simp) (fun x hx => by simp [sem_is_integer n x (tame_isi (tames_mem ht hx))]) (fun s => by simp)
    have hline : xs.length ≤ line := by simp [line]; omega
    by_cases h2 : xs.length = 2
    · obtain ⟨x, y, rfl⟩ : ∃ x y, xs = [x, y] := by
        match xs, h2 with
        | [x, y], _ => exact ⟨x, y, rfl⟩
      have ha := all_bl isInt [x, y]
      simp only [List.map_cons, List.map_nil, List.all_cons, List.all_nil, Bool.and_true] at ha
      simp [b_4, hc, line, ha]
      cases hx : isInt x with
      | false =>
        have : isFrac (.tup [x, y]) = false := by
          cases x <;> first | rfl | (simp [isInt] at hx)
        simp [this]
      | true =>
        cases hy : isInt y with
        | false =>
          have : isFrac (.tup [x, y]) = false := by
            cases x <;> cases y <;> first | rfl | (simp [isInt] at hy; done) | (simp [isFrac])
          simp [this]
        | true =>
          obtain ⟨i, rfl⟩ : ∃ i, x = .int i := by cases x <;> first | exact ⟨_, rfl⟩ | (simp [isInt] at hx)
          obtain ⟨j, rfl⟩ : ∃ j, y = .int j := by cases y <;> first | exact ⟨_, rfl⟩ | (simp [isInt] at hy)
          by_cases h1 : 1 ≤ j
          · by_cases hg : Int.gcd i j = 1
            · simp [isFrac, h1, sem_divisor, hg]
            · have hg' : ¬ ((Int.gcd i j : Int) = 1) := by omega
              simp [isFrac, h1, sem_divisor, hg, hg']
          · simp [isFrac, h1]
    · have h2' : ¬ ((xs.length : Int) = 2) := by omega
      simp [b_4, h2']
      match xs, h2 with
      | [], _ => rfl
      | [_], _ => cases ‹D› <;> rfl
      | _ :: _ :: _ :: _, _ => simp [isFrac]
      | [_, _], h2 => simp at h2
  | _ => first | (simp [tame] at h; done) | (simp [b_4, isFrac])
theorem ints_of : ∀ {xs : List D}, xs.all isInt = true → ∃ is : List Int, xs = is.map D.int
  | [], _ => ⟨[], rfl⟩
  | x :: xs, h => by
    simp only [List.all_cons, Bool.and_eq_true] at h
    obtain ⟨is, rfl⟩ := ints_of h.2
    obtain ⟨i, rfl⟩ : ∃ i, x = .int i := by
      have := h.1
      cases x <;> first | exact ⟨_, rfl⟩ | (simp [isInt] at this)
    exact ⟨i :: is, rfl⟩
theorem ints_no : ∀ {xs : List D}, xs.all isInt = false → intsD xs = none
  | [], h => by simp at h
  | x :: xs, h => by
    cases x with
    | int i =>
      have : xs.all isInt = false := by simpa [isInt] using h
      simp [intsD, ints_no this]
    | _ => rfl
def okForm (size : Nat) (is : List Int) : Bool := decide (is.length = size + 2) && decide (1 ≤ is.getLast?.getD 0) && decide (gcdL 0 is = 1)
def isForm (size : Nat) : D → Bool
  | .tup xs => match intsD xs with
    | some is => okForm size is
    | none => false
  | _ => false
theorem isForm_ints (size : Nat) (is : List Int) : isForm size (.tup (is.map D.int)) = okForm size is := by
  have := intsD_map (fun i => i) is
  simp only [List.map_id'] at this
  have e : intsD (is.map D.int) = some is := by simpa using this
  simp [isForm, e]
theorem sem_is_form (n k size : Nat) (d : D) (h : tame k d = true) : tab.sem (n + 3) 5 [d, .int size] = .ok (.bl (isForm size d), false, .non) := by
  rw [sem0 tab (n + 2) 5 b_5 _ rfl rfl rfl]
  cases d with
  | tup xs =>
    obtain ⟨k, rfl⟩ := tame_pos h
    obtain ⟨hl, ht⟩ := tame_tup h
    have hc : compL [2] (tF (.nm 2)) (iF (tab.gl (n + 2)) []) (xF (tab.gl (n + 2)) (.call 0 [.v 2])) xs [some (.f, .tup xs), some (.f, .int size), none] = .ok (xs.map fun x => .bl (isInt x), [some (.f, .tup xs), some (.f, .int size), none]) :=
      comp_test (by simp) (fun x hx => by simp [sem_is_integer (n + 1) x (tame_isi (tames_mem ht hx))]) (fun s => by simp)
    have hline : xs.length ≤ line := by simp [line]; omega
    by_cases h2 : xs.length = size + 2
    · have h2' : (xs.length : Int) = size + 2 := by omega
      cases hall : xs.all isInt with
      | false =>
        have : isForm size (.tup xs) = false := by simp [isForm, ints_no hall]
        simp [b_5, hc, hline, h2', all_bl, hall, this]
      | true =>
        obtain ⟨is, hxs⟩ := ints_of hall
        have hlen : is.length = size + 2 := by rw [hxs, List.length_map] at h2; exact h2
        obtain ⟨l, hlast⟩ : ∃ l, is.getLast? = some l := by
          cases is with
          | nil => simp at hlen
          | cons i r => exact ⟨_, List.getLast?_eq_some_getLast (by simp)⟩
        have hat : atZ xs (-1) = some (.int l) := by rw [hxs, atZ_last, List.getLast?_map, hlast]; rfl
        have hsem := sem_common n is
        have hform := isForm_ints size is
        rw [← hxs] at hsem hform
        by_cases h1 : 1 ≤ l
        · by_cases hg : gcdL 0 is = 1
          · simp [b_5, hc, hline, h2', all_bl, hall, hat, h1, hsem, hg, hform, okForm, hlen, hlast]
          · have hg' : ¬ ((gcdL 0 is : Int) = 1) := by omega
            simp [b_5, hc, hline, h2', all_bl, hall, hat, h1, hsem, hg, hg', hform, okForm, hlen, hlast]
        · simp [b_5, hc, hline, h2', all_bl, hall, hat, h1, hform, okForm, hlen, hlast]
    · have h2' : ¬ ((xs.length : Int) = size + 2) := by omega
      have : isForm size (.tup xs) = false := by
        cases hall : xs.all isInt with
        | false => simp [isForm, ints_no hall]
        | true =>
          obtain ⟨is, rfl⟩ := ints_of hall
          simp only [List.length_map] at h2
          rw [isForm_ints]
          simp [okForm, h2]
      simp [b_5, h2', this]
  | _ => first | (simp [tame] at h; done) | (simp [b_5, isForm])
def isMove (size phases : Nat) : D → Bool
  | .tup [a, .tup fs] => isBet 0 ((phases : Int) - 1) a && decide (fs.length = size) && fs.all (isForm size)
  | _ => false
theorem two_of {xs : List D} (h : xs.length = 2) : ∃ x y, xs = [x, y] := by
  match xs, h with
  | [x, y], _ => exact ⟨x, y, rfl⟩
theorem three_of {xs : List D} (h : xs.length = 3) : ∃ x y z, xs = [x, y, z] := by
  match xs, h with
  | [x, y, z], _ => exact ⟨x, y, z, rfl⟩
theorem isMove_len {size phases : Nat} {xs : List D} (h : xs.length ≠ 2) : isMove size phases (.tup xs) = false := by
  match xs, h with
  | [], _ => rfl
  | [a], _ => simp [isMove]
  | _ :: _ :: _ :: _, _ => simp [isMove]
  | [_, _], h => exact absurd rfl h
theorem sem_is_move (n k size phases : Nat) (d : D) (h : tame k d = true) : tab.sem (n + 4) 6 [d, .int size, .int phases] = .ok (.bl (isMove size phases d), false, .non) := by
  rw [sem0 tab (n + 3) 6 b_6 _ rfl rfl rfl]
  cases d with
  | tup xs =>
    obtain ⟨k, rfl⟩ := tame_pos h
    obtain ⟨hl, ht⟩ := tame_tup h
    by_cases h2 : xs.length = 2
    · obtain ⟨a, b, rfl⟩ := two_of h2
      have ta := tames_mem ht (x := a) (by simp)
      have tb := tames_mem ht (x := b) (by simp)
      have ia := tame_isi ta
      have ib := tame_isi tb
      cases hb : isBet 0 ((phases : Int) - 1) a with
      | false =>
        have : isMove size phases (.tup [a, b]) = false := by
          cases b <;> first | rfl | (simp [isMove, hb])
        simp [b_6, sem_is_between, ia, hb, this]
      | true =>
        cases b with
        | tup fs =>
          obtain ⟨k, rfl⟩ := tame_pos tb
          obtain ⟨hfl, hft⟩ := tame_tup tb
          have hc : compL [3] (tF (.nm 3)) (iF (tab.gl (n + 3)) []) (xF (tab.gl (n + 3)) (.call 5 [.v 3, .v 1])) fs [some (.f, .tup [a, .tup fs]), some (.f, .int size), some (.f, .int phases), none] = .ok (fs.map fun x => .bl (isForm size x), [some (.f, .tup [a, .tup fs]), some (.f, .int size), some (.f, .int phases), none]) :=
            comp_test (by simp) (fun x hx => by simp [sem_is_form n k size x (tames_mem hft hx)]) (fun s => by simp)
          have hline : fs.length ≤ line := by simp [line]; omega
          by_cases hs : fs.length = size
          · subst hs
            simp [b_6, sem_is_between, ia, hb, hc, hline, all_bl, isMove]
          · have hs' : ¬ ((fs.length : Int) = size) := by omega
            simp [b_6, sem_is_between, ia, hb, hs', isMove, hs]
        | _ => first | (simp [tame] at tb; done) | (simp [b_6, sem_is_between, ia, hb, isMove])
    · have h2' : ¬ ((xs.length : Int) = 2) := by omega
      simp [b_6, h2', isMove_len h2]
  | _ => first | (simp [tame] at h; done) | (simp [b_6, isMove])
def isPhase (size phases : Nat) : D → Bool
  | .tup [f, .tup ms] => isForm size f && decide (1 ≤ ms.length) && decide (ms.length ≤ 5) && ms.all (isMove size phases)
  | _ => false
theorem isPhase_len {size phases : Nat} {xs : List D} (h : xs.length ≠ 2) : isPhase size phases (.tup xs) = false := by
  match xs, h with
  | [], _ => rfl
  | [a], _ => simp [isPhase]
  | _ :: _ :: _ :: _, _ => simp [isPhase]
  | [_, _], h => exact absurd rfl h
theorem sem_is_phase (n k size phases : Nat) (d : D) (h : tame k d = true) : tab.sem (n + 5) 7 [d, .int size, .int phases] = .ok (.bl (isPhase size phases d), false, .non) := by
  rw [sem0 tab (n + 4) 7 b_7 _ rfl rfl rfl]
  cases d with
  | tup xs =>
    obtain ⟨k, rfl⟩ := tame_pos h
    obtain ⟨hl, ht⟩ := tame_tup h
    by_cases h2 : xs.length = 2
    · obtain ⟨a, b, rfl⟩ := two_of h2
      have ta := tames_mem ht (x := a) (by simp)
      have tb := tames_mem ht (x := b) (by simp)
      have ib := tame_isi tb
      have fa := sem_is_form (n + 1) _ size a ta
      cases hb : isForm size a with
      | false =>
        rw [hb] at fa
        have : isPhase size phases (.tup [a, b]) = false := by
          cases b <;> first | rfl | (simp [isPhase, hb])
        simp [b_7, fa, this]
      | true =>
        rw [hb] at fa
        cases b with
        | tup ms =>
          obtain ⟨k, rfl⟩ := tame_pos tb
          obtain ⟨hfl, hft⟩ := tame_tup tb
          have hc : compL [3] (tF (.nm 3)) (iF (tab.gl (n + 4)) []) (xF (tab.gl (n + 4)) (.call 6 [.v 3, .v 1, .v 2])) ms [some (.f, .tup [a, .tup ms]), some (.f, .int size), some (.f, .int phases), none] = .ok (ms.map fun x => .bl (isMove size phases x), [some (.f, .tup [a, .tup ms]), some (.f, .int size), some (.f, .int phases), none]) :=
            comp_test (by simp) (fun x hx => by simp [sem_is_move n k size phases x (tames_mem hft hx)]) (fun s => by simp)
          have hline : ms.length ≤ line := by simp [line]; omega
          by_cases h1 : 1 ≤ ms.length
          · have h1' : (1 : Int) ≤ ms.length := by omega
            by_cases h5 : ms.length ≤ 5
            · have h5' : (ms.length : Int) ≤ 5 := by omega
              simp [b_7, fa, hc, hline, all_bl, isPhase, hb, h1, h1', h5, h5']
            · have h5' : ¬ ((ms.length : Int) ≤ 5) := by omega
              simp [b_7, fa, isPhase, hb, h1, h1', h5, h5']
          · have h1' : ¬ ((1 : Int) ≤ ms.length) := by omega
            simp [b_7, fa, isPhase, hb, h1, h1']
        | _ => first | (simp [tame] at tb; done) | (simp [b_7, fa, isPhase])
    · have h2' : ¬ ((xs.length : Int) = 2) := by omega
      simp [b_7, h2', isPhase_len h2]
  | _ => first | (simp [tame] at h; done) | (simp [b_7, isPhase])
end PK
end
section
set_option linter.all false
set_option maxRecDepth 100000
set_option maxHeartbeats 1000000
/-! PkM2: is_make on any plain data. -/
namespace PK
def movesOf : D → Nat
  | .tup [_, .tup ms] => ms.length
  | _ => 0
def isMake : D → Bool
  | .tup [s, .tup vs, .tup ps] => decide (vs.length ≤ 4) && vs.all isFrac && decide (1 ≤ ps.length) && decide (ps.length ≤ 5) && isBet 0 ((ps.length : Int) - 1) s && ps.all (isPhase vs.length ps.length) && ps.all fun p => decide (movesOf p = movesOf (ps.headD .non))
  | _ => false
theorem isMake_len {xs : List D} (h : xs.length ≠ 3) : isMake (.tup xs) = false := by
  match xs, h with
  | [], _ => rfl
  | [a], _ => simp [isMake]
  | [a, b], _ => simp [isMake]
  | _ :: _ :: _ :: _ :: _, _ => simp [isMake]
  | [_, _, _], h => exact absurd rfl h
theorem phase_moves {size phases : Nat} {p : D} (h : isPhase size phases p = true) : ∃ f ms, p = .tup [f, .tup ms] := by
  cases p with
  | tup xs =>
    by_cases h2 : xs.length = 2
    · obtain ⟨a, b, rfl⟩ := two_of h2
      cases b <;> first | exact ⟨_, _, rfl⟩ | (simp [isPhase] at h)
    · rw [isPhase_len h2] at h; cases h
  | _ => simp [isPhase] at h
theorem sem_is_make (n k : Nat) (d : D) (h : tame k d = true) : tab.sem (n + 6) 8 [d] = .ok (.bl (isMake d), false, .non) := by
  rw [sem0 tab (n + 5) 8 b_8 _ rfl rfl rfl]
  cases d with
  | tup xs =>
    obtain ⟨k, rfl⟩ := tame_pos h
    obtain ⟨hl, ht⟩ := tame_tup h
    by_cases h3 : xs.length = 3
    · obtain ⟨s, v, p, rfl⟩ := three_of h3
      have ts := tames_mem ht (x := s) (by simp)
      have tv := tames_mem ht (x := v) (by simp)
      have tp := tames_mem ht (x := p) (by simp)
      have is := tame_isi ts
      have iv := tame_isi tv
      have ip := tame_isi tp
      generalize hw : D.tup [s, v, p] = w
      have hw2 : isiOk w = true := by rw [← hw]; rfl
      have hw3 : isiD .tuple w = true := by rw [← hw]; rfl
      have hw4 : biD .len [w] = some (.int 3, false) := by rw [← hw]; rfl
      have hw5 : ∀ e, asg (.tp [.nm 1, .nm 2, .nm 3]) w false e = .ok (put (put (put e 1 (some (.f, s))) 2 (some (.f, v))) 3 (some (.f, p))) := by intro e; rw [← hw]; rfl
      cases v with
      | tup vs =>
        obtain ⟨kv, rfl⟩ := tame_pos tv
        obtain ⟨hvl, hvt⟩ := tame_tup tv
        have lv : vs.length ≤ line := by simp [line]; omega
        have c1 : compL [5] (tF (.nm 5)) (iF (tab.gl (n + 5)) []) (xF (tab.gl (n + 5)) (.call 4 [.v 5])) vs [some (.f, w), some (.f, s), some (.f, .tup vs), some (.f, p), none, none] = .ok (vs.map fun x => .bl (isFrac x), [some (.f, w), some (.f, s), some (.f, .tup vs), some (.f, p), none, none]) :=
          comp_test (by simp) (fun x hx => by simp [sem_is_fraction (n + 3) kv x (tames_mem hvt hx)]) (fun s => by simp)
        by_cases h4 : vs.length ≤ 4
        · have h4' : ¬ ((4 : Int) < vs.length) := by omega
          cases hf : vs.all isFrac with
          | false =>
            have : isMake w = false := by
              rw [← hw]
              cases p <;> first | rfl | (simp [isMake, hf])
            simp [b_8, hw2, hw3, hw4, hw5, c1, lv, h4', all_bl, hf, this]
          | true =>
            cases p with
            | tup ps =>
              have kp := kv
              obtain ⟨hpl, hpt⟩ := tame_tup tp
              have lp : ps.length ≤ line := by simp [line]; omega
              have c2 : compL [4] (tF (.nm 4)) (iF (tab.gl (n + 5)) []) (xF (tab.gl (n + 5)) (.call 7 [.v 4, .bi .len [.v 2], .bi .len [.v 3]])) ps [some (.f, w), some (.f, s), some (.f, .tup vs), some (.f, .tup ps), none, none] = .ok (ps.map fun x => .bl (isPhase vs.length ps.length x), [some (.f, w), some (.f, s), some (.f, .tup vs), some (.f, .tup ps), none, none]) :=
                comp_test (by simp) (fun x hx => by simp [sem_is_phase n kv vs.length ps.length x (tames_mem hpt hx)]) (fun s => by simp)
              by_cases h1 : 1 ≤ ps.length
              · have h1' : (1 : Int) ≤ ps.length := by omega
                by_cases h5 : ps.length ≤ 5
                · have h5' : (ps.length : Int) ≤ 5 := by omega
                  cases hb : isBet 0 ((ps.length : Int) - 1) s with
                  | false =>
                    have : isMake w = false := by rw [← hw]; simp [isMake, hb]
                    simp [b_8, hw2, hw3, hw4, hw5, c1, lv, h4', all_bl, hf, h1', h5', sem_is_between, is, hb, this]
                  | true =>
                    cases hp : ps.all (isPhase vs.length ps.length) with
                    | false =>
                      have : isMake w = false := by rw [← hw]; simp [isMake, hp]
                      simp [b_8, hw2, hw3, hw4, hw5, c1, c2, lv, lp, h4', all_bl, hf, h1', h5', sem_is_between, is, hb, hp, this]
                    | true =>
                      obtain ⟨p0, pr, rfl⟩ : ∃ p0 pr, ps = p0 :: pr := by
                        cases ps with
                        | nil => simp at h1
                        | cons a r => exact ⟨a, r, rfl⟩
                      have hall := List.all_eq_true.mp hp
                      obtain ⟨f0, m0, e0⟩ := phase_moves (hall p0 (by simp))
                      have c3 : compL [4] (tF (.nm 4)) (iF (tab.gl (n + 5)) []) (xF (tab.gl (n + 5)) (.cmp .eq (.bi .len [.ix (.v 4) (.c (.int 1))]) (.bi .len [.ix (.ix (.v 3) (.c (.int 0))) (.c (.int 1))]))) (p0 :: pr) [some (.f, w), some (.f, s), some (.f, .tup vs), some (.f, .tup (p0 :: pr)), none, none] = .ok ((p0 :: pr).map fun x => .bl (decide (movesOf x = movesOf p0)), [some (.f, w), some (.f, s), some (.f, .tup vs), some (.f, .tup (p0 :: pr)), none, none]) :=
                        comp_val (fun x hx => ⟨false, by
                          obtain ⟨f, m, e⟩ := phase_moves (hall x hx)
                          rw [e, e0]
                          by_cases hm : m.length = m0.length
                          · have hm' : (m.length : Int) = m0.length := by omega
                            have hd : decide (movesOf (.tup [f, .tup m]) = movesOf (.tup [f0, .tup m0])) = true := decide_eq_true hm
                            rw [hd]
                            simp [hm']
                          · have hm' : ¬ ((m.length : Int) = m0.length) := by omega
                            have hd : decide (movesOf (.tup [f, .tup m]) = movesOf (.tup [f0, .tup m0])) = false := decide_eq_false hm
                            rw [hd]
                            simp [hm']⟩) (fun s => by simp)
                      have : isMake w = (p0 :: pr).all fun x => decide (movesOf x = movesOf p0) := by
                        rw [← hw]
                        simp only [isMake, hf, hp, hb, h4, h1, h5, decide_true, Bool.true_and, List.headD_cons, Bool.and_self]
                        first | done | rfl
                      have ha := all_bl (fun x => decide (movesOf x = movesOf p0)) (p0 :: pr)
                      rw [this]
                      generalize hps : p0 :: pr = ps at *
                      simp [b_8, hw2, hw3, hw4, hw5, c1, c2, c3, lv, lp, h4', all_bl, hf, h1', h5', sem_is_between, is, hb, hp]
                · have h5' : ¬ ((ps.length : Int) ≤ 5) := by omega
                  have : isMake w = false := by rw [← hw]; simp [isMake, h5]
                  simp [b_8, hw2, hw3, hw4, hw5, c1, lv, h4', all_bl, hf, h1', h5', this]
              · have h1' : ¬ ((1 : Int) ≤ ps.length) := by omega
                have : isMake w = false := by rw [← hw]; simp [isMake, h1]
                simp [b_8, hw2, hw3, hw4, hw5, c1, lv, h4', all_bl, hf, h1', this]
            | _ =>
              have : isMake w = false := by rw [← hw]; rfl
              first | (simp [tame] at tp; done) | (simp [b_8, hw2, hw3, hw4, hw5, c1, lv, h4', all_bl, hf, this])
        · have h4' : ((4 : Int) < vs.length) := by omega
          have : isMake w = false := by
            rw [← hw]
            cases p <;> first | rfl | (simp [isMake, h4])
          simp [b_8, hw2, hw3, hw4, hw5, h4', this]
      | _ =>
        have : isMake w = false := by rw [← hw]; rfl
        first | (simp [tame] at tv; done) | (simp [b_8, hw2, hw3, hw4, hw5, this])
    · have h3' : ¬ ((xs.length : Int) = 3) := by omega
      simp [b_8, h3', isMake_len h3]
  | _ => first | (simp [tame] at h; done) | (simp [b_8, isMake])
end PK
end
section
set_option linter.all false
set_option maxRecDepth 100000
set_option maxHeartbeats 1000000
/-! PkM3: k01's own recognizer on any plain data. -/
namespace PK
theorem sem_is_whole (n : Nat) (d : D) (h : isiOk d = true) : tab.sem (n + 1) 22 [d] = .ok (.bl (isInt d), false, .non) := by
  rw [sem0 tab n 22 b_22 _ rfl rfl rfl]
  cases d <;> simp [b_22, isInt] at h ⊢
theorem comp_filter {n f v : Nat} {p : D → Bool} {xs : List D} {env : Env} {args : List X} (h : ∀ x ∈ xs, evX (tab.gl n) (.call f args) (put env v (some (.f, x))) = .ok ((.bl (p x), false), put env v (some (.f, x)))) (hv : ∀ x, at_ (put env v (some (.f, x))) v = some (.f, x)) (hp : ∀ s, put (put env v s) v none = env) :
    compL [v] (tF (.nm v)) (iF (tab.gl n) [.not (.call f args)]) (xF (tab.gl n) (.v v)) xs env = .ok (xs.filter fun x => !p x, env) := by
  have := compL_filter (e := fun x : D => x) (g := fun x : D => x) (p := fun x => !p x) (vs := [v]) (ft := tF (.nm v)) (fi := iF (tab.gl n) [.not (.call f args)]) (fe := xF (tab.gl n) (.v v)) (env := env) (xs := xs) fun x hx => by
    refine ⟨put env v (some (.f, x)), put env v (some (.f, x)), rfl, ?_, fun _ => ?_, fun _ => ⟨false, put env v (some (.f, x)), ?_, ?_⟩⟩
    · have hh := h x hx
      rw [iF_app, evTs_cons, evX_not, hh]
      simp only [Res.bindE, kNot_ok, kTs_ok]
      cases p x <;> rfl
    · simp only [wipeE_cons, wipeE_nil]; exact hp _
    · rw [xF_app, evX_vS, hv]; rfl
    · simp only [wipeE_cons, wipeE_nil]; exact hp _
  simpa using this
theorem shals_filter {n : Nat} {p : D → Bool} : ∀ {xs : List D}, shals n xs = true → shals n (xs.filter p) = true
  | [], _ => by simp [shals]
  | x :: xs, h => by
    simp only [shals, Bool.and_eq_true] at h
    rw [List.filter_cons]
    split
    · simp only [shals, Bool.and_eq_true]
      exact ⟨h.1, shals_filter h.2⟩
    · exact shals_filter h.2
theorem ne_nil {n : Nat} {p : D → Bool} {xs : List D} (hn : n ≤ 39) (h : tames n xs = true) : cmpD .ne (.lst (xs.filter fun x => !p x)) (.lst []) = some (!xs.all p) := by
  have h1 : shal 40 (.lst (xs.filter fun x => !p x)) = true := by
    simp only [shal]
    exact shals_filter (shals_up hn (tames_shals h))
  have h2 : shal 40 (.lst []) = true := by simp [shal, shals]
  have h3 : eqD (.lst (xs.filter fun x => !p x)) (.lst []) = xs.all p := by
    simp only [eqD]
    induction xs with
    | nil => rfl
    | cons x r ih =>
      simp only [tames, Bool.and_eq_true] at h
      rw [List.filter_cons, List.all_cons]
      cases hp : p x with
      | true =>
        simp only [Bool.not_true, Bool.false_eq_true, if_false, Bool.true_and]
        exact ih h.2 (by simp only [shal]; exact shals_filter (shals_up hn (tames_shals h.2)))
      | false => simp [eqDs]
  simp only [cmpD, h1, h2, h3, Bool.and_self, if_true]
theorem eq_nil {n : Nat} {p : D → Bool} {xs : List D} (hn : n ≤ 39) (h : tames n xs = true) : cmpD .eq (.lst (xs.filter fun x => !p x)) (.lst []) = some (xs.all p) := by
  have h0 := ne_nil (p := p) hn h
  simp only [cmpD] at h0 ⊢
  split at h0
  · rename_i hh
    rw [if_pos hh]
    simp only [Option.some.injEq] at h0 ⊢
    have := congrArg Bool.not h0
    simpa using this
  · cases h0
theorem sem_law_low (n : Nat) (a b : Int) (h : Int.gcd a b ≠ 0) : tab.sem (n + 1) 16 [.int a, .int b] = .ok (.tup [.int (a.fdiv (Int.gcd a b)), .int (b.fdiv (Int.gcd a b))], false, .non) := by
  rw [sem0 tab n 16 b_16 _ rfl rfl rfl]
  have w := whl_gcd (fc := cF (tab.gl n) (.cmp .gt (.v 3) (.c (.int 0)))) (fb := bF (tab.gl n) [.par [2, 3] [(.v 3), (.bin .mod (.v 2) (.v 3))]])
    (E := fun x y => [some (.f, .int a), some (.f, .int b), some (.f, .int x), some (.f, .int y)]) (fun x y => ?_) (fun x y h => ?_) a.natAbs b.natAbs
  · have hg : ((Int.gcd a b : Nat) : Int) ≠ 0 := by omega
    have e : a.natAbs.gcd b.natAbs = Int.gcd a b := rfl
    rw [e] at w
    simp [b_16, line, w, bin_div_int, hg, h]
  · simp [cF]
  · have hy : y ≠ 0 := by omega
    simp [binD, hy, line, emod_nat]
theorem sem_law_shared (n : Nat) (mk : List D → D) (hmk : ∀ xs, items (mk xs) = .ok xs) (xs : List Int) : tab.sem (n + 1) 17 [mk (xs.map D.int)] = .ok (.int (gcdL 0 xs), false, .non) := by
  rw [sem0 tab n 17 b_17 _ rfl rfl rfl]
  have w : ∀ (ws : D) (xs : List Int) (g : Nat) (s1 s2 s3 : Slot), ∃ t1 t2 t3, forL (tF (.nm 2)) (bF (tab.gl n) [.par [3, 4] [(.bi .abs [(.v 2)]), (.v 1)], .whl (.cmp .gt (.v 4) (.c (.int 0))) [.par [3, 4] [(.v 4), (.bin .mod (.v 3) (.v 4))]], .set (.nm 1) (.v 3)]) (xs.map D.int) [some (.f, ws), some (.f, .int g), s1, s2, s3] = .ok (.nx [some (.f, ws), some (.f, .int (gcdL g xs)), t1, t2, t3]) := by
    intro ws xs
    induction xs with
    | nil => intro g s1 s2 s3; exact ⟨s1, s2, s3, rfl⟩
    | cons i xs ih =>
      intro g s1 s2 s3
      have wg := whl_gcd (fc := cF (tab.gl n) (.cmp .gt (.v 4) (.c (.int 0)))) (fb := bF (tab.gl n) [.par [3, 4] [(.v 4), (.bin .mod (.v 3) (.v 4))]])
        (E := fun x y => [some (.f, ws), some (.f, .int g), some (.f, .int i), some (.f, .int x), some (.f, .int y)]) (fun x y => by simp [cF]) (fun x y h => by
          have hy : y ≠ 0 := by omega
          simp [binD, hy, line, emod_nat]) i.natAbs g
      have e : i.natAbs.gcd g = Int.gcd g i := by
        show _ = Nat.gcd (g : Int).natAbs i.natAbs
        rw [Nat.gcd_comm]
        rfl
      rw [e] at wg
      obtain ⟨t1, t2, t3, ht⟩ := ih (Int.gcd g i) (some (.f, .int i)) (some (.f, .int (Int.gcd g i))) (some (.f, .int 0))
      refine ⟨t1, t2, t3, ?_⟩
      simp [forL, line, wg, ht, gcdL]
  obtain ⟨t1, t2, t3, ht⟩ := w (mk (xs.map D.int)) xs 0 none none none
  simp only [Int.natCast_zero] at ht
  simp [b_17, hmk, ht]
theorem sem_law_is_form (n k size : Nat) (d : D) (hk : k ≤ 40) (h : tame k d = true) : tab.sem (n + 2) 23 [d, .int size] = .ok (.bl (isForm size d), false, .non) := by
  rw [sem0 tab (n + 1) 23 b_23 _ rfl rfl rfl]
  cases d with
  | tup xs =>
    obtain ⟨k, rfl⟩ := tame_pos h
    obtain ⟨hl, ht⟩ := tame_tup h
    have hc : compL [2] (tF (.nm 2)) (iF (tab.gl (n + 1)) [.not (.call 22 [.v 2])]) (xF (tab.gl (n + 1)) (.v 2)) xs [some (.f, .tup xs), some (.f, .int size), none] = .ok (xs.filter fun x => !isInt x, [some (.f, .tup xs), some (.f, .int size), none]) :=
      comp_filter (fun x hx => by simp [sem_is_whole n x (tame_isi (tames_mem ht hx))]) (fun x => by simp) (fun s => by simp)
    have hline : (xs.filter fun x => !isInt x).length ≤ line := by
      have := List.length_filter_le (fun x => !isInt x) xs
      simp only [line]
      omega
    have hne := ne_nil (p := isInt) (by omega : k ≤ 39) ht
    by_cases h2 : xs.length = size + 2
    · have h2' : (xs.length : Int) = size + 2 := by omega
      cases hall : xs.all isInt with
      | false =>
        have : isForm size (.tup xs) = false := by simp [isForm, ints_no hall]
        simp [b_23, hc, hline, h2', hne, hall, this]
      | true =>
        obtain ⟨is, hxs⟩ := ints_of hall
        have hlen : is.length = size + 2 := by rw [hxs, List.length_map] at h2; exact h2
        obtain ⟨l, hlast⟩ : ∃ l, is.getLast? = some l := by
          cases is with
          | nil => simp at hlen
          | cons i r => exact ⟨_, List.getLast?_eq_some_getLast (by simp)⟩
        have hat : atZ xs (-1) = some (.int l) := by rw [hxs, atZ_last, List.getLast?_map, hlast]; rfl
        have hsem := sem_law_shared n D.tup (fun _ => rfl) is
        have hform := isForm_ints size is
        rw [← hxs] at hsem hform
        by_cases h1 : 1 ≤ l
        · have h1' : ¬ l < 1 := by omega
          by_cases hg : gcdL 0 is = 1
          · simp [b_23, hc, hline, h2', hne, hall, hat, h1, h1', hsem, hg, hform, okForm, hlen, hlast]
          · have hg' : ¬ ((gcdL 0 is : Int) = 1) := by omega
            simp [b_23, hc, hline, h2', hne, hall, hat, h1, h1', hsem, hg, hg', hform, okForm, hlen, hlast]
        · have h1' : l < 1 := by omega
          simp [b_23, hc, hline, h2', hne, hall, hat, h1, h1', hform, okForm, hlen, hlast]
    · have h2' : ¬ ((xs.length : Int) = size + 2) := by omega
      have : isForm size (.tup xs) = false := by
        cases hall : xs.all isInt with
        | false => simp [isForm, ints_no hall]
        | true =>
          obtain ⟨is, rfl⟩ := ints_of hall
          simp only [List.length_map] at h2
          rw [isForm_ints]
          simp [okForm, h2]
      simp [b_23, h2', this]
  | _ => first | (simp [tame] at h; done) | (simp [b_23, isForm])
end PK
end
section
set_option linter.all false
set_option maxRecDepth 100000
set_option maxHeartbeats 1000000
/-! PkM4: k01's own recognizer of makes on any plain data, and that it is is_make. -/
namespace PK
theorem forL_all {ft : D → Env → Res Env} {fb : Env → Res Out} {I : Env → Prop} {p : D → Bool} : ∀ {xs : List D} {env : Env},
    (∀ x ∈ xs, ∀ env, I env → ∃ env1, ft x env = .ok env1 ∧ ((p x = true ∧ ∃ env2, fb env1 = .ok (.nx env2) ∧ I env2) ∨ (p x = false ∧ ∃ env2, fb env1 = .ok (.rt (.bl false) false env2)))) → I env →
    (xs.all p = true ∧ ∃ env', forL ft fb xs env = .ok (.nx env') ∧ I env') ∨ (xs.all p = false ∧ ∃ env', forL ft fb xs env = .ok (.rt (.bl false) false env'))
  | [], env, h, i => .inl ⟨rfl, env, rfl, i⟩
  | x :: xs, env, h, i => by
    obtain ⟨env1, h1, h2⟩ := h x List.mem_cons_self env i
    rcases h2 with ⟨h2, env2, h3, h4⟩ | ⟨h2, env2, h3⟩
    · rcases forL_all (xs := xs) (fun y hy => h y (List.mem_cons_of_mem _ hy)) h4 with ⟨k1, env', k2, k3⟩ | ⟨k1, env', k2⟩
      · exact .inl ⟨by simp [h2, k1], env', by simp only [forL, h1, h3, k2, Res.bindE], k3⟩
      · exact .inr ⟨by simp only [List.all_cons, h2, k1, Bool.and_false], env', by simp only [forL, h1, h3, k2, Res.bindE]⟩
    · exact .inr ⟨by simp only [List.all_cons, h2, Bool.false_and], env2, by simp only [forL, h1, h3, Res.bindE]⟩
theorem low_one (a b : Int) (hb : 0 < b) : (decide (a.fdiv (Int.gcd a b) = a) && decide (b.fdiv (Int.gcd a b) = b)) = decide (Int.gcd a b = 1) := by
  have hg : 0 < Int.gcd a b := Int.gcd_pos_of_ne_zero_right a (by omega)
  by_cases h1 : Int.gcd a b = 1
  · simp [h1]
  · have : ¬ (b.fdiv (Int.gcd a b) = b) := by
      rw [Int.fdiv_eq_ediv_of_nonneg _ (Int.natCast_nonneg _)]
      intro e
      have h2 : (2 : Int) ≤ (Int.gcd a b : Nat) := by omega
      have := Int.ediv_lt_self_of_pos_of_ne_one hb (by omega : ((Int.gcd a b : Nat) : Int) ≠ 1)
      omega
    simp [this, h1]
theorem sem_law_is_value (n k : Nat) (d : D) (h : tame k d = true) : tab.sem (n + 2) 24 [d] = .ok (.bl (isFrac d), false, .non) := by
  rw [sem0 tab (n + 1) 24 b_24 _ rfl rfl rfl]
  cases d with
  | tup xs =>
    obtain ⟨k, rfl⟩ := tame_pos h
    obtain ⟨hl, ht⟩ := tame_tup h
    by_cases h2 : xs.length = 2
    · obtain ⟨x, y, rfl⟩ := two_of h2
      have ix := tame_isi (tames_mem ht (x := x) (by simp))
      have iy := tame_isi (tames_mem ht (x := y) (by simp))
      have sx := sem_is_whole n x ix
      have sy := sem_is_whole n y iy
      cases hx : isInt x with
      | false =>
        have : isFrac (.tup [x, y]) = false := by
          cases x <;> first | rfl | (simp [isInt] at hx)
        simp [b_24, sx, hx, this]
      | true =>
        cases hy : isInt y with
        | false =>
          have : isFrac (.tup [x, y]) = false := by
            cases x <;> cases y <;> first | rfl | (simp [isInt] at hy; done) | (simp [isFrac])
          simp [b_24, sx, hx, sy, hy, this]
        | true =>
          obtain ⟨i, rfl⟩ : ∃ i, x = .int i := by cases x <;> first | exact ⟨_, rfl⟩ | (simp [isInt] at hx)
          obtain ⟨j, rfl⟩ : ∃ j, y = .int j := by cases y <;> first | exact ⟨_, rfl⟩ | (simp [isInt] at hy)
          by_cases h1 : 1 ≤ j
          · have h0 : 0 < j := by omega
            have hg : Int.gcd i j ≠ 0 := by
              have := Int.gcd_pos_of_ne_zero_right i (show j ≠ 0 by omega)
              omega
            have ceq : cmpD .eq (.tup [.int (i.fdiv (Int.gcd i j)), .int (j.fdiv (Int.gcd i j))]) (.tup [.int i, .int j]) = some (decide (Int.gcd i j = 1)) := by
              rw [← low_one i j h0]
              simp only [cmpD, shal, shals, eqD, eqDs, Bool.and_self, if_true, Bool.and_true, Bool.beq_eq_decide_eq]
            simp [b_24, sx, hx, sy, hy, isFrac, h1, h0, sem_law_low n i j hg, ceq] <;> (by_cases hg1 : Int.gcd i j = 1 <;> simp [hg1])
          · have h0 : ¬ (0 < j) := by omega
            simp [b_24, sx, hx, sy, hy, isFrac, h1, h0]
    · have h2' : ¬ ((xs.length : Int) = 2) := by omega
      have : isFrac (.tup xs) = false := by
        match xs, h2 with
        | [], _ => rfl
        | [_], _ => cases ‹D› <;> rfl
        | _ :: _ :: _ :: _, _ => simp [isFrac]
        | [_, _], h2 => simp at h2
      simp [b_24, h2', this]
  | _ => first | (simp [tame] at h; done) | (simp [b_24, isFrac])
def isPhaseL (size phases count : Nat) : D → Bool
  | .tup [f, .tup ms] => isForm size f && decide (ms.length = count) && ms.all (isMove size phases)
  | _ => false
theorem isPhaseL_len {size phases count : Nat} {xs : List D} (h : xs.length ≠ 2) : isPhaseL size phases count (.tup xs) = false := by
  match xs, h with
  | [], _ => rfl
  | [a], _ => simp [isPhaseL]
  | _ :: _ :: _ :: _, _ => simp [isPhaseL]
  | [_, _], h => exact absurd rfl h
theorem sem_law_is_phase (n k size phases count : Nat) (d : D) (hk : k ≤ 40) (h : tame k d = true) : tab.sem (n + 3) 25 [d, .int size, .int phases, .int count] = .ok (.bl (isPhaseL size phases count d), false, .non) := by
  rw [sem0 tab (n + 2) 25 b_25 _ rfl rfl rfl]
  cases d with
  | tup xs =>
    obtain ⟨k, rfl⟩ := tame_pos h
    obtain ⟨hl, ht⟩ := tame_tup h
    by_cases h2 : xs.length = 2
    · obtain ⟨a, b, rfl⟩ := two_of h2
      have ta := tames_mem ht (x := a) (by simp)
      have tb := tames_mem ht (x := b) (by simp)
      have ib := tame_isi tb
      have fa := sem_law_is_form n _ size a (by omega) ta
      cases hb : isForm size a with
      | false =>
        rw [hb] at fa
        have : isPhaseL size phases count (.tup [a, b]) = false := by
          cases b <;> first | rfl | (simp [isPhaseL, hb])
        simp [b_25, fa, this]
      | true =>
        rw [hb] at fa
        cases b with
        | tup ms =>
          obtain ⟨k, rfl⟩ := tame_pos tb
          obtain ⟨hfl, hft⟩ := tame_tup tb
          by_cases hc : ms.length = count
          · have hc' : (ms.length : Int) = count := by omega
            have loop := forL_all (p := isMove size phases) (xs := ms) (ft := tF (.nm 4)) (fb := bF (tab.gl (n + 2)) [.iff (.or (.not (.bi (.isi .tuple) [(.v 4)])) (.or (.cmp .ne (.bi .len [(.v 4)]) (.c (.int 2))) (.not (.call 22 [(.ix (.v 4) (.c (.int 0)))])))) [.ret (.c (.bl false))] [], .iff (.or (.cmp .lt (.ix (.v 4) (.c (.int 0))) (.c (.int 0))) (.or (.cmp .ge (.ix (.v 4) (.c (.int 0))) (.v 2)) (.or (.not (.bi (.isi .tuple) [(.ix (.v 4) (.c (.int 1)))])) (.cmp .ne (.bi .len [(.ix (.v 4) (.c (.int 1)))]) (.v 1))))) [.ret (.c (.bl false))] [], .iff (.cmp .ne (.comp (.nm 5) (.ix (.v 4) (.c (.int 1))) [(.not (.call 23 [(.v 5), (.v 1)]))] (.v 5)) (.lst [])) [.ret (.c (.bl false))] []])
              (I := fun e => ∃ s, e = [some (.f, .tup [a, .tup ms]), some (.f, .int size), some (.f, .int phases), some (.f, .int count), s, none]) (env := [some (.f, .tup [a, .tup ms]), some (.f, .int size), some (.f, .int phases), some (.f, .int count), none, none])
              (fun m hm env ⟨s, he⟩ => ?_) ⟨none, rfl⟩
            · rcases loop with ⟨l1, e', l2, s, rfl⟩ | ⟨l1, e', l2⟩
              · simp [b_25, fa, hc', l2, isPhaseL, hb, hc, l1]
              · simp [b_25, fa, hc', l2, isPhaseL, hb, hc, l1]
            · subst he
              have tm := tames_mem hft hm
              refine ⟨_, rfl, ?_⟩
              cases m with
              | tup ys =>
                by_cases hy2 : ys.length = 2
                · obtain ⟨u, v, rfl⟩ := two_of hy2
                  obtain ⟨k, rfl⟩ := tame_pos tm
                  obtain ⟨_, tt⟩ := tame_tup tm
                  have tu := tames_mem tt (x := u) (by simp)
                  have tv := tames_mem tt (x := v) (by simp)
                  have su := sem_is_whole (n + 1) u (tame_isi tu)
                  have iv := tame_isi tv
                  cases hu : isInt u with
                  | false =>
                    have : isMove size phases (.tup [u, v]) = false := by
                      cases u <;> cases v <;> first | rfl | (simp [isInt] at hu; done) | (simp [isMove, isBet])
                    refine .inr ⟨this, ?_⟩
                    simp [su, hu]
                  | true =>
                    obtain ⟨i, rfl⟩ : ∃ i, u = .int i := by cases u <;> first | exact ⟨_, rfl⟩ | (simp [isInt] at hu)
                    by_cases h0 : i < 0
                    · have : isMove size phases (.tup [.int i, v]) = false := by
                        have : ¬ (0 ≤ i) := by omega
                        cases v <;> first | rfl | (simp [isMove, isBet, this])
                      refine .inr ⟨this, ?_⟩
                      simp [su, hu, h0]
                    · by_cases h1 : (phases : Int) ≤ i
                      · have : isMove size phases (.tup [.int i, v]) = false := by
                          have : ¬ (i ≤ (phases : Int) - 1) := by omega
                          cases v <;> first | rfl | (simp [isMove, isBet, this])
                        refine .inr ⟨this, ?_⟩
                        simp [su, hu, h0, h1]
                      · have hbet : isBet 0 ((phases : Int) - 1) (.int i) = true := by
                          have a1 : 0 ≤ i := by omega
                          have a2 : i ≤ (phases : Int) - 1 := by omega
                          simp [isBet, a1, a2]
                        cases v with
                        | tup fs =>
                          obtain ⟨k, rfl⟩ := tame_pos tv
                          obtain ⟨hfl2, hft2⟩ := tame_tup tv
                          by_cases hs : fs.length = size
                          · have hs' : (fs.length : Int) = size := by omega
                            have cf : compL [5] (tF (.nm 5)) (iF (tab.gl (n + 2)) [.not (.call 23 [.v 5, .v 1])]) (xF (tab.gl (n + 2)) (.v 5)) fs [some (.f, .tup [a, .tup ms]), some (.f, .int size), some (.f, .int phases), some (.f, .int count), some (.f, .tup [.int i, .tup fs]), none] = .ok (fs.filter fun x => !isForm size x, [some (.f, .tup [a, .tup ms]), some (.f, .int size), some (.f, .int phases), some (.f, .int count), some (.f, .tup [.int i, .tup fs]), none]) :=
                              comp_filter (fun x hx => by simp [sem_law_is_form n k size x (by omega) (tames_mem hft2 hx)]) (fun x => by simp) (fun s => by simp)
                            have hline : (fs.filter fun x => !isForm size x).length ≤ line := by
                              have := List.length_filter_le (fun x => !isForm size x) fs
                              simp only [line]
                              omega
                            have hne := ne_nil (p := isForm size) (by omega : k ≤ 39) hft2
                            cases hall : fs.all (isForm size) with
                            | true =>
                              refine .inl ⟨by simp [isMove, hbet, hs, hall], ?_⟩
                              simp [su, hu, h0, h1, hs', cf, hline, hne, hall]
                            | false =>
                              refine .inr ⟨by simp [isMove, hbet, hs, hall], ?_⟩
                              simp [su, hu, h0, h1, hs', cf, hline, hne, hall]
                          · have hs' : ¬ ((fs.length : Int) = size) := by omega
                            refine .inr ⟨by simp [isMove, hbet, hs], ?_⟩
                            simp [su, hu, h0, h1, hs']
                        | _ =>
                          first
                            | (simp [tame] at tv; done)
                            | (refine .inr ⟨rfl, ?_⟩
                               simp [su, hu, h0, h1])
                · have hy2' : ¬ ((ys.length : Int) = 2) := by omega
                  refine .inr ⟨isMove_len hy2, ?_⟩
                  simp [hy2']
              | _ =>
                first
                  | (simp [tame] at tm; done)
                  | (refine .inr ⟨rfl, ?_⟩
                     simp)
          · have hc' : ¬ ((ms.length : Int) = count) := by omega
            simp [b_25, fa, hc', isPhaseL, hb, hc]
        | _ => first | (simp [tame] at tb; done) | (simp [b_25, fa, isPhaseL])
    · have h2' : ¬ ((xs.length : Int) = 2) := by omega
      simp [b_25, h2', isPhaseL_len h2]
  | _ => first | (simp [tame] at h; done) | (simp [b_25, isPhaseL])
/-- the law's own recognizer, plainly -/
def isMakeL : D → Bool
  | .tup [s, .tup vs, .tup ps] => decide (vs.length ≤ 4) && vs.all isFrac && decide (1 ≤ ps.length) && decide (ps.length ≤ 5) && isBet 0 ((ps.length : Int) - 1) s && (match ps.headD .non with
    | .tup [_, .tup ms] => decide (1 ≤ ms.length) && decide (ms.length ≤ 5) && ps.all (isPhaseL vs.length ps.length ms.length)
    | _ => false)
  | _ => false
theorem isPhaseL_iff (size phases count : Nat) (d : D) : isPhaseL size phases count d = (match d with
    | .tup [f, .tup ms] => isForm size f && decide (ms.length = count) && ms.all (isMove size phases)
    | _ => false) := by
  cases d <;> first | rfl | (unfold isPhaseL; rfl)
theorem phase_both {size phases count : Nat} (h1 : 1 ≤ count) (h5 : count ≤ 5) (d : D) : isPhaseL size phases count d = (isPhase size phases d && decide (movesOf d = count)) := by
  cases d with
  | tup xs =>
    by_cases h2 : xs.length = 2
    · obtain ⟨a, b, rfl⟩ := two_of h2
      cases b with
      | tup ms =>
        simp only [isPhaseL, isPhase, movesOf]
        by_cases hc : ms.length = count
        · have a1 : 1 ≤ ms.length := by omega
          have a2 : ms.length ≤ 5 := by omega
          simp [hc, h1, h5]
        · simp [hc]
      | _ => simp [isPhaseL, isPhase]
    · rw [isPhaseL_len h2, isPhase_len h2]
      rfl
  | _ => simp [isPhaseL, isPhase]
theorem all_and2 {p q : D → Bool} : ∀ xs : List D, (xs.all fun d => (p d && q d)) = (xs.all p && xs.all q)
  | [] => rfl
  | x :: xs => by
    rw [List.all_cons, List.all_cons, List.all_cons, all_and2 xs]
    cases p x <;> cases q x <;> simp
theorem makes_same (d : D) : isMakeL d = isMake d := by
  cases d with
  | tup xs =>
    by_cases h3 : xs.length = 3
    · obtain ⟨s, v, p, rfl⟩ := three_of h3
      cases v with
      | tup vs =>
        cases p with
        | tup ps =>
          simp only [isMakeL, isMake]
          cases ps with
          | nil => simp
          | cons p0 pr =>
            simp only [List.headD_cons]
            generalize (decide (vs.length ≤ 4) && vs.all isFrac && decide (1 ≤ (p0 :: pr).length) && decide ((p0 :: pr).length ≤ 5) && isBet 0 (((p0 :: pr).length : Int) - 1) s) = c
            rw [Bool.and_assoc]
            congr 1
            generalize hn : (p0 :: pr).length = m
            -- the first phase
            by_cases hf : ∃ f ms, p0 = .tup [f, .tup ms]
            · obtain ⟨f, ms, rfl⟩ := hf
              have e1 : (match D.tup [f, .tup ms] with
                | .tup [_, .tup ms] => decide (1 ≤ ms.length) && decide (ms.length ≤ 5) && (D.tup [f, .tup ms] :: pr).all (isPhaseL vs.length m ms.length)
                | _ => false) = (decide (1 ≤ ms.length) && decide (ms.length ≤ 5) && (D.tup [f, .tup ms] :: pr).all (isPhaseL vs.length m ms.length)) := rfl
              rw [e1]
              by_cases h1 : 1 ≤ ms.length
              · by_cases h5 : ms.length ≤ 5
                · have e2 : (D.tup [f, .tup ms] :: pr).all (isPhaseL vs.length m ms.length) = (D.tup [f, .tup ms] :: pr).all fun d => (isPhase vs.length m d && decide (movesOf d = ms.length)) := by
                    congr 1
                    funext d
                    exact phase_both h1 h5 d
                  rw [e2]
                  simp only [h1, h5, decide_true, Bool.true_and, Bool.and_self]
                  rw [all_and2]
                  rfl
                · simp [h5, isPhase]
              · simp [h1, isPhase]
            · have e1 : isPhase vs.length m p0 = false := by
                cases h : isPhase vs.length m p0 with
                | false => rfl
                | true => exact absurd (phase_moves h) hf
              simp only [List.all_cons, e1, Bool.false_and]
              split
              · rename_i f ms
                exact absurd ⟨f, ms, rfl⟩ hf
              · rfl
        | _ => simp [isMakeL, isMake]
      | _ => simp [isMakeL, isMake]
    · rw [isMake_len h3]
      match xs, h3 with
      | [], _ => rfl
      | [a], _ => simp [isMakeL]
      | [a, b], _ => simp [isMakeL]
      | _ :: _ :: _ :: _ :: _, _ => simp [isMakeL]
      | [_, _, _], h => exact absurd rfl h
  | _ => simp [isMakeL, isMake]
end PK
end
section
set_option linter.all false
set_option maxRecDepth 100000
set_option maxHeartbeats 1000000
/-! PkM5: k01's own is_make, by the text. -/
namespace PK
theorem isMakeL_len {xs : List D} (h : xs.length ≠ 3) : isMakeL (.tup xs) = false := by
  match xs, h with
  | [], _ => rfl
  | [a], _ => simp [isMakeL]
  | [a, b], _ => simp [isMakeL]
  | _ :: _ :: _ :: _ :: _, _ => simp [isMakeL]
  | [_, _, _], h => exact absurd rfl h
def tailL (sz : Nat) (ps : List D) : D → Bool
  | .tup [_, .tup ms] => decide (1 ≤ ms.length) && decide (ms.length ≤ 5) && ps.all (isPhaseL sz ps.length ms.length)
  | _ => false
theorem tailL_len {sz : Nat} {ps xs : List D} (h : xs.length ≠ 2) : tailL sz ps (.tup xs) = false := by
  match xs, h with
  | [], _ => rfl
  | [a], _ => simp [tailL]
  | _ :: _ :: _ :: _, _ => simp [tailL]
  | [_, _], h => exact absurd rfl h
theorem isMakeL_tail {i : Int} {vs ps : List D} {p0 : D} (h1 : vs.length ≤ 4) (h2 : vs.all isFrac = true) (h3 : 1 ≤ ps.length) (h4 : ps.length ≤ 5) (h5 : isBet 0 ((ps.length : Int) - 1) (.int i) = true) (h6 : ps.headD .non = p0) :
    isMakeL (.tup [.int i, .tup vs, .tup ps]) = tailL vs.length ps p0 := by
  simp only [isMakeL, h1, h2, h3, h4, h5, h6, decide_true, Bool.and_true, Bool.true_and]
  cases p0 <;> first | rfl | (unfold tailL; rfl)
theorem sem_law_is_make (n k : Nat) (d : D) (hk : k ≤ 40) (h : tame k d = true) : tab.sem (n + 4) 26 [d] = .ok (.bl (isMakeL d), false, .non) := by
  rw [sem0 tab (n + 3) 26 b_26 _ rfl rfl rfl]
  cases d with
  | tup xs =>
    obtain ⟨k, rfl⟩ := tame_pos h
    obtain ⟨hl, ht⟩ := tame_tup h
    by_cases h3 : xs.length = 3
    · obtain ⟨s, v, p, rfl⟩ := three_of h3
      have ts := tames_mem ht (x := s) (by simp)
      have tv := tames_mem ht (x := v) (by simp)
      have tp := tames_mem ht (x := p) (by simp)
      have is := tame_isi ts
      have iv := tame_isi tv
      have ip := tame_isi tp
      have ss := sem_is_whole (n + 2) s is
      have sx : ixD (.tup [s, v, p]) (.int 0) = some s := rfl
      generalize hw : D.tup [s, v, p] = w at sx
      have hw2 : isiOk w = true := by rw [← hw]; rfl
      have hw3 : isiD .tuple w = true := by rw [← hw]; rfl
      have hw4 : biD .len [w] = some (.int 3, false) := by rw [← hw]; rfl
      have hw5 : ∀ e, asg (.tp [.nm 2, .nm 3, .nm 4]) w false e = .ok (put (put (put e 2 (some (.f, s))) 3 (some (.f, v))) 4 (some (.f, p))) := by intro e; rw [← hw]; rfl
      cases hs : isInt s with
      | false =>
        have : isMakeL w = false := by
          rw [← hw]
          cases v <;> first | rfl | skip
          cases p <;> first | rfl | skip
          have : ∀ z, isBet 0 z s = false := fun z => by cases s <;> first | rfl | (simp [isInt] at hs)
          simp [isMakeL, this]
        simp [b_26, hw2, hw3, hw4, sx, ss, hs, this]
      | true =>
        obtain ⟨i, rfl⟩ : ∃ i, s = .int i := by cases s <;> first | exact ⟨_, rfl⟩ | (simp [isInt] at hs)
        cases v with
        | tup vs =>
          obtain ⟨kv, rfl⟩ := tame_pos tv
          obtain ⟨hvl, hvt⟩ := tame_tup tv
          by_cases h4 : vs.length ≤ 4
          · have h4' : ¬ ((4 : Int) < vs.length) := by omega
            have cv : compL [5] (tF (.nm 5)) (iF (tab.gl (n + 3)) [.not (.call 24 [.v 5])]) (xF (tab.gl (n + 3)) (.v 5)) vs [some (.f, w), none, some (.f, .int i), some (.f, .tup vs), some (.f, p), none] = .ok (vs.filter fun x => !isFrac x, [some (.f, w), none, some (.f, .int i), some (.f, .tup vs), some (.f, p), none]) :=
              comp_filter (fun x hx => by simp [sem_law_is_value (n + 1) _ x (tames_mem hvt hx)]) (fun x => by simp) (fun s => by simp)
            have lv : (vs.filter fun x => !isFrac x).length ≤ line := by
              have := List.length_filter_le (fun x => !isFrac x) vs
              simp only [line]
              omega
            have hnv := ne_nil (p := isFrac) (by omega : kv ≤ 39) hvt
            cases hall : vs.all isFrac with
            | false =>
              have : isMakeL w = false := by
                rw [← hw]
                cases p <;> first | rfl | (simp [isMakeL, hall])
              simp [b_26, hw2, hw3, hw4, hw5, sx, ss, hs, h4', cv, lv, hnv, hall, this]
            | true =>
              cases p with
              | tup ps =>
                obtain ⟨hpl, hpt⟩ := tame_tup tp
                by_cases c1 : (1 : Int) ≤ ps.length
                · by_cases c5 : (ps.length : Int) ≤ 5
                  · by_cases c0 : 0 ≤ i
                    · by_cases cl : i < ps.length
                      · obtain ⟨p0, hm0, ha0, hh0⟩ : ∃ p0, p0 ∈ ps ∧ atZ ps 0 = some p0 ∧ ps.headD .non = p0 := by
                          cases ps with
                          | nil => simp at c1
                          | cons p0 pr => exact ⟨p0, by simp, by simp, rfl⟩
                        have tp0 := tames_mem hpt hm0
                        have ip0 := tame_isi tp0
                        have hbet : isBet 0 ((ps.length : Int) - 1) (.int i) = true := by
                          have a2 : i ≤ (ps.length : Int) - 1 := by omega
                          simp [isBet, c0, a2]
                        have c1' : 1 ≤ ps.length := by omega
                        have c5' : ps.length ≤ 5 := by omega
                        have base : isMakeL w = tailL vs.length ps p0 := by
                          rw [← hw]
                          exact isMakeL_tail h4 hall c1' c5' hbet hh0
                        cases p0 with
                        | tup qs =>
                          by_cases q2 : qs.length = 2
                          · obtain ⟨a, b, rfl⟩ := two_of q2
                            obtain ⟨k2, e2⟩ := tame_pos tp0
                            have tb : tame k2 b = true := by
                              rw [e2] at tp0
                              exact tames_mem (tame_tup tp0).2 (x := b) (by simp)
                            have ib := tame_isi tb
                            cases b with
                            | tup ms =>
                              by_cases m1 : (1 : Int) ≤ ms.length
                              · by_cases m5 : (ms.length : Int) ≤ 5
                                · have cp : compL [5] (tF (.nm 5)) (iF (tab.gl (n + 3)) [.not (.call 25 [.v 5, .bi .len [.v 3], .bi .len [.v 4], .bi .len [.ix (.v 1) (.c (.int 1))]])]) (xF (tab.gl (n + 3)) (.v 5)) ps [some (.f, w), some (.f, .tup [a, .tup ms]), some (.f, .int i), some (.f, .tup vs), some (.f, .tup ps), none] = .ok (ps.filter fun x => !isPhaseL vs.length ps.length ms.length x, [some (.f, w), some (.f, .tup [a, .tup ms]), some (.f, .int i), some (.f, .tup vs), some (.f, .tup ps), none]) :=
                                    comp_filter (fun x hx => by simp [sem_law_is_phase n _ vs.length ps.length ms.length x (by omega) (tames_mem hpt hx)]) (fun x => by simp) (fun s => by simp)
                                  have lp : (ps.filter fun x => !isPhaseL vs.length ps.length ms.length x).length ≤ line := by
                                    have := List.length_filter_le (fun x => !isPhaseL vs.length ps.length ms.length x) ps
                                    simp only [line]
                                    omega
                                  have hep := eq_nil (p := isPhaseL vs.length ps.length ms.length) (by omega : kv ≤ 39) hpt
                                  have m1' : 1 ≤ ms.length := by omega
                                  have m5' : ms.length ≤ 5 := by omega
                                  simp [b_26, hw2, hw3, hw4, hw5, sx, ss, hs, h4', cv, lv, hnv, hall, c1, c5, c0, cl, ha0, m1, m5, cp, lp, hep, base, tailL, m1', m5']
                                · have m5' : ¬ (ms.length ≤ 5) := by omega
                                  simp [b_26, hw2, hw3, hw4, hw5, sx, ss, hs, h4', cv, lv, hnv, hall, c1, c5, c0, cl, ha0, m1, m5, base, tailL, m5']
                              · have m1' : ¬ (1 ≤ ms.length) := by omega
                                simp [b_26, hw2, hw3, hw4, hw5, sx, ss, hs, h4', cv, lv, hnv, hall, c1, c5, c0, cl, ha0, m1, base, tailL, m1']
                            | _ =>
                              first
                                | (simp [tame] at tb; done)
                                | (simp [b_26, hw2, hw3, hw4, hw5, sx, ss, hs, h4', cv, lv, hnv, hall, c1, c5, c0, cl, ha0, base, tailL])
                          · have q2' : ¬ ((qs.length : Int) = 2) := by omega
                            have base' : isMakeL w = false := by rw [base, tailL_len q2]
                            simp [b_26, hw2, hw3, hw4, hw5, sx, ss, hs, h4', cv, lv, hnv, hall, c1, c5, c0, cl, ha0, base', q2']
                        | _ =>
                          first
                            | (simp [tame] at tp0; done)
                            | (simp [b_26, hw2, hw3, hw4, hw5, sx, ss, hs, h4', cv, lv, hnv, hall, c1, c5, c0, cl, ha0, base, tailL])
                      · have : isMakeL w = false := by
                          rw [← hw]
                          have : ¬ (i ≤ (ps.length : Int) - 1) := by omega
                          simp [isMakeL, isBet, this]
                        simp [b_26, hw2, hw3, hw4, hw5, sx, ss, hs, h4', cv, lv, hnv, hall, c1, c5, c0, cl, this]
                    · have : isMakeL w = false := by
                        rw [← hw]
                        simp [isMakeL, isBet, c0]
                      simp [b_26, hw2, hw3, hw4, hw5, sx, ss, hs, h4', cv, lv, hnv, hall, c1, c5, c0, this]
                  · have : isMakeL w = false := by
                      rw [← hw]
                      have : ¬ (ps.length ≤ 5) := by omega
                      simp [isMakeL, this]
                    simp [b_26, hw2, hw3, hw4, hw5, sx, ss, hs, h4', cv, lv, hnv, hall, c1, c5, this]
                · have : isMakeL w = false := by
                    rw [← hw]
                    have : ¬ (1 ≤ ps.length) := by omega
                    simp [isMakeL, this]
                  simp [b_26, hw2, hw3, hw4, hw5, sx, ss, hs, h4', cv, lv, hnv, hall, c1, this]
              | _ =>
                have : isMakeL w = false := by rw [← hw]; rfl
                first | (simp [tame] at tp; done) | (simp [b_26, hw2, hw3, hw4, hw5, sx, ss, hs, h4', cv, lv, hnv, hall, this])
          · have h4' : (4 : Int) < vs.length := by omega
            have : isMakeL w = false := by
              rw [← hw]
              cases p <;> first | rfl | (simp [isMakeL, h4])
            simp [b_26, hw2, hw3, hw4, hw5, sx, ss, hs, h4', this]
        | _ =>
          have : isMakeL w = false := by rw [← hw]; rfl
          first | (simp [tame] at tv; done) | (simp [b_26, hw2, hw3, hw4, hw5, sx, ss, hs, this])
    · have h3' : ¬ ((xs.length : Int) = 3) := by omega
      simp [b_26, h3', isMakeL_len h3]
  | _ => first | (simp [tame] at h; done) | (simp [b_26, isMakeL])
end PK
end
section
set_option linter.all false
set_option maxRecDepth 100000
set_option maxHeartbeats 1000000
/-! PkM6: the laws' source of draws. -/
namespace PK
/-- a source: two ints -/
def Src (s : D) : Prop := ∃ a b : Int, s = .lst [.int a, .int b] ∧ 0 ≤ a ∧ 0 ≤ b ∧ b < 2147483647
theorem mulOk_small (i j : Int) (hi : i.natAbs < 1267650600228229401496703205376) (hj : j.natAbs < 1267650600228229401496703205376) : mulOk i j = true := by
  have f : ∀ n : Nat, n < 1267650600228229401496703205376 → n.log2 ≤ 100 := by
    intro n h
    by_cases h0 : n = 0
    · subst h0; decide
    · have := (Nat.log2_lt h0 (k := 100)).mpr (by omega)
      omega
  have a := f _ hi
  have b := f _ hj
  simp only [mulOk, decide_eq_true_eq]
  omega
theorem bin_pow_int (i j : Int) (h : powOk i j = true) : binD .pow (.int i) (.int j) = some (.int (i ^ j.toNat), false) := by
  show (if powOk i j then _ else _) = _
  rw [h]
  rfl
theorem p18 : binD .pow (.int 10) (.int 18) = some (.int 1000000000000000000, false) := by
  rw [bin_pow_int 10 18 (by simp [powOk])]
  simp only [Option.some.injEq, Prod.mk.injEq, D.int.injEq, and_true]
  exact Int.ofNat_inj.mpr (by decide : 10 ^ 18 = 1000000000000000000)
theorem fmod_lt {a b : Int} (h : 0 < b) : 0 ≤ a.fmod b ∧ a.fmod b < b := by
  rw [Int.fmod_eq_emod_of_nonneg _ (by omega)]
  exact ⟨Int.emod_nonneg _ (by omega), Int.emod_lt_of_pos _ h⟩
theorem fdiv_nn {a b : Int} (ha : 0 ≤ a) (hb : 0 ≤ b) : 0 ≤ a.fdiv b := by
  rw [Int.fdiv_eq_ediv_of_nonneg _ hb]
  exact Int.ediv_nonneg ha hb
theorem src_a (G : Gl) (R : List S) (xs : List D) (i : Nat) (z : Int) (h : (i : Int) < xs.length) (e : atZ xs (i : Int) = some (.int z)) : evSs G (.set (.nm 2) (.c (.int 0)) :: .iff (.cmp .lt (.v 1) (.bi .len [(.v 0)])) [.set (.nm 2) (.bi .abs [(.ix (.v 0) (.v 1))])] [] :: R) [some (.f, .scr xs), some (.f, .int i), none] = evSs G R [some (.f, .scr xs), some (.f, .int i), some (.f, .int z.natAbs)] := by
  simp [h, e]
theorem src_b (G : Gl) (R : List S) (xs : List D) (i : Nat) (h : ¬ (i : Int) < xs.length) : evSs G (.set (.nm 2) (.c (.int 0)) :: .iff (.cmp .lt (.v 1) (.bi .len [(.v 0)])) [.set (.nm 2) (.bi .abs [(.ix (.v 0) (.v 1))])] [] :: R) [some (.f, .scr xs), some (.f, .int i), none] = evSs G R [some (.f, .scr xs), some (.f, .int i), some (.f, .int 0)] := by
  simp [h]
theorem src_c (G : Gl) (xs : List D) (i : Nat) (hi : i ≤ 63) (c : Int) (hc : 0 ≤ c) : ∃ s, (evSs G [.iff (.cmp .lt (.v 2) (.bin .pow (.c (.int 10)) (.c (.int 18)))) [.ret (.lst [(.c (.int 0)), (.bin .add (.c (.int 1)) (.bin .mod (.bin .add (.bin .mul (.v 2) (.c (.int 7919))) (.bin .mul (.c (.int 104729)) (.v 1))) (.c (.int 2147483646))))])] [],
  .ret (.lst [(.v 2), (.bin .add (.c (.int 1)) (.bin .mod (.bin .add (.v 2) (.v 1)) (.c (.int 2147483646))))])] [some (.f, .scr xs), some (.f, .int i), some (.f, .int c)]).bind end0 = .ok (s, true, .non) ∧ Src s := by
  by_cases h : c < 1000000000000000000
  · have m1 : mulOk c 7919 = true := mulOk_small _ _ (by omega) (by omega)
    have m2 : mulOk 104729 (i : Int) = true := mulOk_small _ _ (by omega) (by omega)
    have q := fmod_lt (a := c * 7919 + 104729 * (i : Int)) (b := 2147483646) (by omega)
    exact ⟨.lst [.int 0, .int (1 + (c * 7919 + 104729 * (i : Int)).fmod 2147483646)], by simp [p18, h, bin_mul_int, m1, m2, bin_mod_int, line], _, _, rfl, by omega, by omega, by omega⟩
  · have q := fmod_lt (a := c + (i : Int)) (b := 2147483646) (by omega)
    exact ⟨.lst [.int c, .int (1 + (c + (i : Int)).fmod 2147483646)], by simp [p18, h, bin_mod_int, line], _, _, rfl, by omega, by omega, by omega⟩
theorem sem_source (n : Nat) (ns : List Int) (i : Nat) (hi : i ≤ 63) : ∃ s, tab.sem (n + 1) 13 [.scr (ns.map D.int), .int i] = .ok (s, true, .non) ∧ Src s := by
  rw [sem0 tab n 13 b_13 _ rfl rfl rfl]
  by_cases hl : i < ns.length
  · have e : atZ (ns.map D.int) (i : Int) = some (.int ns[i]) := by rw [atZ_nat]; simp [hl]
    have hl' : (i : Int) < (ns.map D.int).length := by rw [List.length_map]; omega
    obtain ⟨s, hs, k⟩ := src_c (tab.gl n) (ns.map D.int) i hi (ns[i]).natAbs (Int.natCast_nonneg _)
    rw [← src_a (tab.gl n) _ (ns.map D.int) i _ hl' e] at hs
    exact ⟨s, hs, k⟩
  · have hl' : ¬ (i : Int) < (ns.map D.int).length := by rw [List.length_map]; omega
    obtain ⟨s, hs, k⟩ := src_c (tab.gl n) (ns.map D.int) i hi 0 (Int.le_refl _)
    rw [← src_b (tab.gl n) _ (ns.map D.int) i hl'] at hs
    exact ⟨s, hs, k⟩
theorem sem_draw (n : Nat) {s : D} (hs : Src s) (size : Int) (h1 : 1 ≤ size) : ∃ r s', tab.sem (n + 1) 14 [s, .int size] = .ok (.int r, false, s') ∧ 0 ≤ r ∧ r < size ∧ Src s' := by
  obtain ⟨a, b, rfl, ha, hb, hb2⟩ := hs
  rw [sem1 tab n 14 b_14 _ _ rfl rfl rfl]
  have h0 : size ≠ 0 := by omega
  by_cases h : 0 < a
  · have q := fmod_lt (a := a) (b := size) (by omega)
    exact ⟨a.fmod size, .lst [.int (a.fdiv size), .int b], by simp [b_14, h, bin_mod_int, bin_div_int, h0, knd, setD, ixZ], q.1, q.2, _, _, rfl, fdiv_nn ha (by omega), hb, hb2⟩
  · have m1 : mulOk b 48271 = true := mulOk_small _ _ (by omega) (by omega)
    have q := fmod_lt (a := b * 48271) (b := 2147483647) (by omega)
    have m2 : mulOk ((b * 48271).fmod 2147483647) ((b * 48271).fmod 2147483647) = true := mulOk_small _ _ (by omega) (by omega)
    generalize hc : (b * 48271).fmod 2147483647 = c at q m2
    have q2 := fmod_lt (a := ((c * c).fmod 2147483629).fdiv 64) (b := size) (by omega)
    refine ⟨_, .lst [.int a, .int c], ?_, q2.1, q2.2, _, _, rfl, ha, q.1, q.2⟩
    simp [b_14, h, bin_mul_int, bin_mod_int, bin_div_int, m1, m2, h0, hc, setD, ixZ]
theorem sem_choice (n : Nat) {s : D} (hs : Src s) (xs : List D) (h1 : xs ≠ []) : ∃ x s', tab.sem (n + 2) 15 [s, .lst xs] = .ok (x, false, s') ∧ x ∈ xs ∧ Src s' := by
  have hl : (1 : Int) ≤ xs.length := by
    cases xs with
    | nil => exact absurd rfl h1
    | cons x r => simp; omega
  obtain ⟨r, s', e, h0, hr, k⟩ := sem_draw n hs xs.length hl
  rw [sem1 tab (n + 1) 15 b_15 _ _ rfl rfl rfl]
  obtain ⟨j, rfl⟩ : ∃ j : Nat, r = j := ⟨r.toNat, by omega⟩
  have hj : j < xs.length := by omega
  have ex : atZ xs (j : Int) = some xs[j] := by rw [atZ_nat]; simp [hj]
  refine ⟨xs[j], s', ?_, List.getElem_mem hj, k⟩
  simp [b_15, e, ex]
end PK
end
section
set_option linter.all false
set_option maxRecDepth 100000
set_option maxHeartbeats 1000000
/-! PkM7: drawn forms. -/
namespace PK
theorem gcdL_left : ∀ (is : List Int) (g : Nat), gcdL g is ∣ g
  | [], g => Nat.dvd_refl g
  | i :: r, g => by
    have h := gcdL_left r (Int.gcd g i)
    have h2 : Int.gcd g i ∣ g := by simpa using Int.gcd_dvd_natAbs_left (g : Int) i
    exact Nat.dvd_trans h h2
theorem gcdL_mem : ∀ (is : List Int) (g : Nat) (i : Int), i ∈ is → gcdL g is ∣ i.natAbs
  | j :: r, g, i, h => by
    rcases List.mem_cons.mp h with rfl | h
    · exact Nat.dvd_trans (gcdL_left r (Int.gcd g i)) (Int.gcd_dvd_natAbs_right (g : Int) i)
    · exact gcdL_mem r _ i h
theorem gcdL_of : ∀ (is : List Int) (g d : Nat), d ∣ g → (∀ i ∈ is, d ∣ i.natAbs) → d ∣ gcdL g is
  | [], g, d, h, _ => h
  | i :: r, g, d, h, hi => by
    refine gcdL_of r _ d ?_ fun j hj => hi j (List.mem_cons_of_mem _ hj)
    exact Nat.dvd_gcd (by simpa using h) (hi i List.mem_cons_self)
theorem gcdL_div {is : List Int} (h : gcdL 0 is ≠ 0) : gcdL 0 (is.map fun i => i.fdiv (gcdL 0 is)) = 1 := by
  generalize hg : gcdL 0 is = g at h
  generalize hd : gcdL 0 (is.map fun i => i.fdiv g) = d
  have h1 : d * g ∣ gcdL 0 is := by
    refine gcdL_of is 0 (d * g) (Nat.dvd_zero _) fun i hi => ?_
    have a := gcdL_mem (is.map fun i => i.fdiv g) 0 (i.fdiv g) (List.mem_map.mpr ⟨i, hi, rfl⟩)
    rw [hd] at a
    have b := gcdL_mem is 0 i hi
    rw [hg] at b
    have b' : (g : Int) ∣ i := Int.ofNat_dvd_left.mpr b
    have c : i = i.fdiv g * g := by
      rw [Int.fdiv_eq_ediv_of_nonneg _ (by omega), Int.ediv_mul_cancel b']
    rw [c, Int.natAbs_mul, Int.natAbs_natCast]
    exact Nat.mul_dvd_mul_right a g
  rw [hg] at h1
  have h2 : d * g ≤ g := Nat.le_of_dvd (by omega) h1
  have h3 : d ≤ 1 := by
    apply Nat.le_of_mul_le_mul_right (c := g) _ (by omega)
    omega
  have h4 : d ≠ 0 := by
    intro h0
    subst h0
    simp at h1
    omega
  omega
/-- small ints -/
def Small (k : Nat) (d : D) : Prop := ∃ i : Int, d = .int i ∧ i.natAbs ≤ k
theorem row_loop (n : Nat) (size : Int) : ∀ (m : Nat) (lo : Int) (s : D) (js : List Int) (x : Slot), Src s → js.length + m ≤ 1000 → (∀ j ∈ js, j.natAbs ≤ 10) → ∃ (s' : D) (is : List Int) (x' : Slot), forL (tF (.nm 3)) (bF (tab.gl (n + 2)) [.app 2 (.call 15 [(.v 0), (.lst [(.c (.int 0)), (.c (.int 0)), (.c (.int 1)), (.c (.int 1)), (.neg (.c (.int 1))), (.c (.int 2)), (.c (.int 10)), (.bin .sub (.call 14 [(.v 0), (.c (.int 9))]) (.c (.int 4)))])])]) (rangeD lo m) [some (.io, s), some (.f, .int size), some (.o, .lst (js.map D.int)), x, none, none] = .ok (.nx [some (.io, s'), some (.f, .int size), some (.o, .lst (is.map D.int)), x', none, none]) ∧ Src s' ∧ is.length = js.length + m ∧ ∀ j ∈ is, j.natAbs ≤ 10
  | 0, lo, s, js, x, hs, hl, hj => ⟨s, js, x, rfl, hs, rfl, hj⟩
  | m + 1, lo, s, js, x, hs, hl, hj => by
    obtain ⟨r, s1, e1, r0, r1, hs1⟩ := sem_draw (n + 1) hs 9 (by omega)
    obtain ⟨c, s2, e2, hc, hs2⟩ := sem_choice n hs1 [.int 0, .int 0, .int 1, .int 1, .int (-1), .int 2, .int 10, .int (r - 4)] (by simp)
    obtain ⟨i, rfl, hi⟩ : Small 10 c := by
      simp at hc
      rcases hc with rfl | rfl | rfl | rfl | rfl | rfl <;> exact ⟨_, rfl, by omega⟩
    obtain ⟨s3, is, x', e3, hs3, hl3, hi3⟩ := row_loop n size m (lo + 1) s2 (js ++ [i]) (some (.f, .int lo)) hs2 (by simp; omega) (by
      intro j h
      rcases List.mem_append.mp h with h | h
      · exact hj j h
      · rw [List.mem_singleton.mp h]; exact hi)
    refine ⟨s3, is, x', ?_, hs3, by simp at hl3; omega, hi3⟩
    have hl1 : js.length < 16777216 := by omega
    simp [List.map_append] at e3
    simp [rangeD, forL, e1, e2, line, knd, appD, hl1, e3]
/-- a drawn form -/
def Fm (size : Nat) (d : D) : Prop := ∃ is : List Int, d = .tup (is.map D.int) ∧ okForm size is = true ∧ (∀ i ∈ is, i.natAbs ≤ 10) ∧ (is.getLast?.getD 0).natAbs ≤ 3
theorem fdiv_abs {i : Int} {g : Nat} (h : (g : Int) ∣ i) (hg : g ≠ 0) : (i.fdiv g).natAbs ≤ i.natAbs := by
  rw [Int.fdiv_eq_ediv_of_nonneg _ (by omega)]
  obtain ⟨q, rfl⟩ := h
  rw [Int.mul_ediv_cancel_left _ (by omega), Int.natAbs_mul, Int.natAbs_natCast]
  exact Nat.le_mul_of_pos_left _ (by omega)
theorem form_ok {size : Nat} {js : List Int} {l : Int} (hl : js.length = size + 1) (h1 : 1 ≤ l) (h3 : l.natAbs ≤ 3) (hj : ∀ j ∈ js ++ [l], j.natAbs ≤ 10) : gcdL 0 (js ++ [l]) ≠ 0 ∧ Fm size (.tup ((js ++ [l]).map fun i => D.int (i.fdiv (gcdL 0 (js ++ [l]))))) := by
  have hm := gcdL_mem (js ++ [l]) 0 l (by simp)
  have h0 : gcdL 0 (js ++ [l]) ≠ 0 := by
    intro e
    rw [e] at hm
    have := Nat.eq_zero_of_zero_dvd hm
    omega
  refine ⟨h0, (js ++ [l]).map fun i => i.fdiv (gcdL 0 (js ++ [l])), by simp [List.map_map, Function.comp_def], ?_, ?_, ?_⟩
  · have hg := gcdL_div h0
    have hd : ((gcdL 0 (js ++ [l]) : Nat) : Int) ∣ l := Int.ofNat_dvd_left.mpr hm
    have hlast : 1 ≤ l.fdiv (gcdL 0 (js ++ [l])) := by
      rw [Int.fdiv_eq_ediv_of_nonneg _ (by omega)]
      obtain ⟨q, hq⟩ := hd
      generalize gcdL 0 (js ++ [l]) = g at *
      have hg0 : (0 : Int) < g := by omega
      have hq0 : 0 < q := by
        rcases Int.lt_or_le 0 q with h | h
        · exact h
        · have := Int.mul_le_mul_of_nonneg_left h (Int.le_of_lt hg0)
          rw [Int.mul_zero, ← hq] at this
          omega
      rw [hq, Int.mul_ediv_cancel_left _ (by omega)]
      omega
    simp only [okForm, hg, List.length_map, List.length_append, List.length_cons, List.length_nil, hl]
    simp [hlast]
  · intro i hi
    obtain ⟨j, hj2, rfl⟩ := List.mem_map.mp hi
    have := fdiv_abs (Int.ofNat_dvd_left.mpr (gcdL_mem (js ++ [l]) 0 j hj2)) h0
    have := hj j hj2
    omega
  · have := fdiv_abs (Int.ofNat_dvd_left.mpr hm) h0
    have e : ((js ++ [l]).map fun i => i.fdiv (gcdL 0 (js ++ [l]))).getLast?.getD 0 = l.fdiv (gcdL 0 (js ++ [l])) := by simp
    rw [e]
    omega
theorem form_tail (n size : Nat) {s s1 s2 s3 s4 : D} {is : List Int} {i l r : Int} {g : Nat} (x : Slot)
    (e1 : forL (tF (.nm 3)) (bF (tab.gl (n + 2)) [.app 2 (.call 15 [(.v 0), (.lst [(.c (.int 0)), (.c (.int 0)), (.c (.int 1)), (.c (.int 1)), (.neg (.c (.int 1))), (.c (.int 2)), (.c (.int 10)), (.bin .sub (.call 14 [(.v 0), (.c (.int 9))]) (.c (.int 4)))])])]) (rangeD 0 size) [some (.io, s), some (.f, .int size), some (.o, .lst (([] : List Int).map D.int)), none, none, none] = .ok (.nx [some (.io, s1), some (.f, .int size), some (.o, .lst (is.map D.int)), x, none, none]))
    (e2 : tab.sem (n + 2) 14 [s1, .int 21] = .ok (.int r, false, s2))
    (e3 : tab.sem (n + 2) 15 [s2, .lst [.int 0, .int 0, .int 1, .int (-1), .int 3, .int (r - 10)]] = .ok (.int i, false, s3))
    (e4 : tab.sem (n + 2) 15 [s3, .lst [.int 1, .int 1, .int 1, .int 1, .int 2, .int 3]] = .ok (.int l, false, s4))
    (hsh : tab.sem (n + 2) 17 [.lst ((is ++ [i, l]).map D.int)] = .ok (.int g, false, .non))
    (hc : compL [5] (tF (.nm 5)) (iF (tab.gl (n + 2)) []) (xF (tab.gl (n + 2)) (.bin .div (.v 5) (.v 4))) ((is ++ [i, l]).map D.int) [some (.io, s4), some (.f, .int size), some (.f, .lst ((is ++ [i, l]).map D.int)), x, some (.f, .int g), none] = .ok ((is ++ [i, l]).map fun i => D.int (i.fdiv g), [some (.io, s4), some (.f, .int size), some (.f, .lst ((is ++ [i, l]).map D.int)), x, some (.f, .int g), none]))
    (hlen : is.length = size) (hz : size ≤ 900) :
    (evSs (tab.gl (n + 2)) b_18.body (some (.io, s) :: ([D.int size].map (fun d => some (.f, d)) ++ List.replicate (b_18.n - b_18.np) none))).bind end1 = .ok (.tup ((is ++ [i, l]).map fun i => D.int (i.fdiv g)), false, s4) := by
  have ll : size < 16777216 := by omega
  have ll2 : size + 1 < 16777216 := by omega
  have ll3 : size + 1 + 1 ≤ 16777216 := by omega
  have rk : rngOk (size : Int) = true := by simp [rngOk]; omega
  simp only [List.map_append, List.map_cons, List.map_nil] at hsh hc e1 ⊢
  simp -implicitDefEqProofs [b_18, rk, e1, e2, e3, e4, line, knd, appD, hlen, ll, ll2, ll3, hsh, hc]
theorem sem_form (n size : Nat) (hz : size ≤ 900) {s : D} (hs : Src s) : ∃ d s', tab.sem (n + 3) 18 [s, .int size] = .ok (d, false, s') ∧ Fm size d ∧ Src s' := by
  rw [sem1 tab (n + 2) 18 b_18 _ _ rfl rfl rfl]
  obtain ⟨s1, is, x, e1, hs1, hl1, hi1⟩ := row_loop n size size 0 s [] none hs (by simp; omega) (by simp)
  obtain ⟨r, s2, e2, r0, r1, hs2⟩ := sem_draw (n + 1) hs1 21 (by omega)
  obtain ⟨c, s3, e3, hc, hs3⟩ := sem_choice n hs2 [.int 0, .int 0, .int 1, .int (-1), .int 3, .int (r - 10)] (by simp)
  obtain ⟨i, rfl, hi⟩ : Small 10 c := by
    simp at hc
    rcases hc with rfl | rfl | rfl | rfl | rfl <;> exact ⟨_, rfl, by omega⟩
  obtain ⟨c, s4, e4, hc, hs4⟩ := sem_choice n hs3 [.int 1, .int 1, .int 1, .int 1, .int 2, .int 3] (by simp)
  obtain ⟨l, rfl, hl, hl'⟩ : ∃ l : Int, c = .int l ∧ 1 ≤ l ∧ l.natAbs ≤ 3 := by
    simp at hc
    rcases hc with rfl | rfl | rfl <;> exact ⟨_, rfl, by omega, by omega⟩
  have hsh := sem_law_shared (n + 1) D.lst (fun _ => rfl) ((is ++ [i]) ++ [l])
  have hf := form_ok (size := size) (js := is ++ [i]) (l := l) (by simp at hl1 ⊢; omega) hl hl' (by
    intro j h
    simp at h
    rcases h with h | rfl | rfl
    · exact hi1 j h
    · exact hi
    · omega)
  refine ⟨_, s4, ?_, hf.2, hs4⟩
  have hlen : is.length = size := by simpa using hl1
  generalize hg : gcdL 0 (is ++ [i] ++ [l]) = g at hf hsh
  have hg0 : ((g : Nat) : Int) ≠ 0 := by omega
  have e9 : is ++ [i] ++ [l] = is ++ [i, l] := by simp
  rw [e9] at hsh ⊢
  have hc := compL_map (e := D.int) (g := fun i => D.int (i.fdiv g)) (vs := [5]) (ft := tF (.nm 5)) (fi := iF (tab.gl (n + 2)) []) (fe := xF (tab.gl (n + 2)) (.bin .div (.v 5) (.v 4)))
    (env := [some (.io, s4), some (.f, .int size), some (.f, .lst ((is ++ [i, l]).map D.int)), x, some (.f, .int g), none]) (xs := is ++ [i, l]) (fun z hz => ⟨[some (.io, s4), some (.f, .int size), some (.f, .lst ((is ++ [i, l]).map D.int)), x, some (.f, .int g), some (.f, .int z)], [some (.io, s4), some (.f, .int size), some (.f, .lst ((is ++ [i, l]).map D.int)), x, some (.f, .int g), some (.f, .int z)], false, [some (.io, s4), some (.f, .int size), some (.f, .lst ((is ++ [i, l]).map D.int)), x, some (.f, .int g), some (.f, .int z)], rfl, rfl, by simp [bin_div_int z g hg0], by simp⟩)
  exact form_tail n size x e1 e2 e3 e4 hsh hc hlen hz
end PK
end
section
set_option linter.all false
set_option maxRecDepth 100000
set_option maxHeartbeats 1000000
/-! PkM8: drawn moves and makes. -/
namespace PK
theorem All2.len {α β : Type} {P : α → β → Prop} : ∀ {as : List α} {bs : List β}, All2 P as bs → bs.length = as.length
  | _, _, .nil => rfl
  | _, _, .cons _ h => by simp [h.len]
theorem All2.all {α β : Type} {P : α → β → Prop} {Q : β → Prop} (hq : ∀ a b, P a b → Q b) : ∀ {as : List α} {bs : List β}, All2 P as bs → ∀ b ∈ bs, Q b
  | _, _, .nil, b, hb => by cases hb
  | _, _, .cons h1 h2, b, hb => by
    rcases List.mem_cons.mp hb with rfl | hb
    · exact hq _ _ h1
    · exact h2.all hq b hb
/-- a comprehension that draws m times -/
theorem comp_draw {I : Env → Prop} {Q : D → Prop} {vs : List Nat} {ft : D → Env → Res Env} {fi : Env → Res (Bool × Env)} {fe : Env → Res (DF × Env)} {env : Env} (m : Nat)
    (h : ∀ (j : Int) env, I env → ∃ env1 env2 r env3, ft (.int j) env = .ok env1 ∧ fi env1 = .ok (true, env2) ∧ fe env2 = .ok (r, env3) ∧ Q r.1 ∧ I (wipeE env3 vs)) (h0 : I env) :
    ∃ out env', compL vs ft fi fe (rangeD 0 m) env = .ok (out, env') ∧ I env' ∧ out.length = m ∧ ∀ d ∈ out, Q d := by
  obtain ⟨out, env', e, hi, ha⟩ := compL_inv (e := fun i : Nat => D.int (0 + i)) (P := fun _ d => Q d) (I := I) (xs := List.range m) (fun x _ env hi => h _ env hi) h0
  rw [← map_range] at e
  exact ⟨out, env', e, hi, by simpa using ha.len, All2.all (Q := Q) (fun _ _ h => h) ha⟩
def Mv (size phases : Nat) (d : D) : Prop := ∃ r fs, d = .tup [.int r, .tup fs] ∧ 0 ≤ r ∧ r < phases ∧ fs.length = size ∧ ∀ f ∈ fs, Fm size f
theorem sem_move (n size phases : Nat) (hz : size ≤ 900) (hp : 1 ≤ phases) {s : D} (hs : Src s) : ∃ d s', tab.sem (n + 4) 19 [s, .int size, .int phases] = .ok (d, false, s') ∧ Mv size phases d ∧ Src s' := by
  rw [sem1 tab (n + 3) 19 b_19 _ _ rfl rfl rfl]
  obtain ⟨r, s1, e1, r0, r1, hs1⟩ := sem_draw (n + 2) hs phases (by omega)
  obtain ⟨fs, env', e2, ⟨s2, hs2, rfl⟩, hl, hf⟩ := comp_draw (I := fun e => ∃ s', Src s' ∧ e = [some (.io, s'), some (.f, .int size), some (.f, .int phases), none]) (Q := Fm size) (vs := [3]) (ft := tF (.nm 3)) (fi := iF (tab.gl (n + 3)) []) (fe := xF (tab.gl (n + 3)) (.call 18 [(.v 0), (.v 1)])) (env := [some (.io, s1), some (.f, .int size), some (.f, .int phases), none]) size
    (fun j env ⟨s', hs', he⟩ => by
      subst he
      obtain ⟨d, s2, e, hd, hs2⟩ := sem_form n size hz hs'
      refine ⟨[some (.io, s'), some (.f, .int size), some (.f, .int phases), some (.f, .int j)], [some (.io, s'), some (.f, .int size), some (.f, .int phases), some (.f, .int j)], (d, false), [some (.io, s2), some (.f, .int size), some (.f, .int phases), some (.f, .int j)], rfl, rfl, ?_, hd, s2, hs2, rfl⟩
      simp -implicitDefEqProofs [e]) ⟨s1, hs1, rfl⟩
  refine ⟨_, s2, ?_, ⟨r, fs, rfl, r0, r1, hl, hf⟩, hs2⟩
  have rk : rngOk (size : Int) = true := by simp [rngOk]; omega
  have l1 : fs.length ≤ 16777216 := by omega
  have l2 : size ≤ 16777216 := by omega
  simp -implicitDefEqProofs [b_19, e1, rk, e2, line, l1, hl, l2]
def Ph (size phases count : Nat) (d : D) : Prop := ∃ f ms, d = .tup [f, .tup ms] ∧ Fm size f ∧ ms.length = count ∧ ∀ m ∈ ms, Mv size phases m
def Frc (d : D) : Prop := ∃ a b : Int, d = .tup [.int a, .int b] ∧ Int.gcd a b = 1 ∧ 1 ≤ b ∧ a.natAbs ≤ 10 ∧ b.natAbs ≤ 10
def Mk (size phases count : Nat) (d : D) : Prop := ∃ r vs ps, d = .tup [.int r, .tup vs, .tup ps] ∧ 0 ≤ r ∧ r < phases ∧ vs.length = size ∧ (∀ v ∈ vs, Frc v) ∧ ps.length = phases ∧ ∀ p ∈ ps, Ph size phases count p
theorem phase_loop (n size phases count : Nat) (hz : size ≤ 900) (hp : 1 ≤ phases) (hc : count ≤ 900) : ∀ (m : Nat) (lo : Int) (s : D) (acc : List D) (x y : Slot), Src s → acc.length + m ≤ 1000 → (∀ p ∈ acc, Ph size phases count p) → ∃ (s' : D) (ps : List D) (x' y' : Slot), forL (tF (.nm 5)) (bF (tab.gl (n + 4)) [.set (.nm 7) (.bi .tuple [(.comp (.nm 9) (.rng [(.v 3)]) [] (.call 19 [(.v 0), (.v 1), (.v 2)]))]), .app 4 (.tup [(.call 18 [(.v 0), (.v 1)]), (.v 7)])]) (rangeD lo m) [some (.io, s), some (.f, .int size), some (.f, .int phases), some (.f, .int count), some (.o, .lst acc), x, none, y, none, none] = .ok (.nx [some (.io, s'), some (.f, .int size), some (.f, .int phases), some (.f, .int count), some (.o, .lst ps), x', none, y', none, none]) ∧ Src s' ∧ ps.length = acc.length + m ∧ ∀ p ∈ ps, Ph size phases count p
  | 0, lo, s, acc, x, y, hs, hl, ha => ⟨s, acc, x, y, rfl, hs, rfl, ha⟩
  | m + 1, lo, s, acc, x, y, hs, hl, ha => by
    obtain ⟨ms, env', e1, ⟨s1, hs1, rfl⟩, hm, hmv⟩ := comp_draw (I := fun e => ∃ s', Src s' ∧ e = [some (.io, s'), some (.f, .int size), some (.f, .int phases), some (.f, .int count), some (.o, .lst acc), some (.f, .int lo), none, y, none, none]) (Q := Mv size phases) (vs := [9]) (ft := tF (.nm 9)) (fi := iF (tab.gl (n + 4)) []) (fe := xF (tab.gl (n + 4)) (.call 19 [(.v 0), (.v 1), (.v 2)])) (env := [some (.io, s), some (.f, .int size), some (.f, .int phases), some (.f, .int count), some (.o, .lst acc), some (.f, .int lo), none, y, none, none]) count
      (fun j env ⟨s', hs', he⟩ => by
        subst he
        obtain ⟨d, s2, e, hd, hs2⟩ := sem_move n size phases hz hp hs'
        refine ⟨[some (.io, s'), some (.f, .int size), some (.f, .int phases), some (.f, .int count), some (.o, .lst acc), some (.f, .int lo), none, y, none, some (.f, .int j)], [some (.io, s'), some (.f, .int size), some (.f, .int phases), some (.f, .int count), some (.o, .lst acc), some (.f, .int lo), none, y, none, some (.f, .int j)], (d, false), [some (.io, s2), some (.f, .int size), some (.f, .int phases), some (.f, .int count), some (.o, .lst acc), some (.f, .int lo), none, y, none, some (.f, .int j)], rfl, rfl, ?_, hd, s2, hs2, rfl⟩
        simp -implicitDefEqProofs [e]) ⟨s, hs, rfl⟩
    obtain ⟨f, s2, e2, hf, hs2⟩ := sem_form (n + 1) size hz hs1
    obtain ⟨s3, ps, x', y', e3, hs3, hl3, hp3⟩ := phase_loop n size phases count hz hp hc m (lo + 1) s2 (acc ++ [.tup [f, .tup ms]]) (some (.f, .int lo)) (some (.f, .tup ms)) hs2 (by simp; omega) (by
      intro p h
      rcases List.mem_append.mp h with h | h
      · exact ha p h
      · rw [List.mem_singleton.mp h]
        exact ⟨f, ms, rfl, hf, hm, hmv⟩)
    refine ⟨s3, ps, x', y', ?_, hs3, by simp at hl3; omega, hp3⟩
    have rk : rngOk (count : Int) = true := by simp [rngOk]; omega
    have l1 : ms.length ≤ 16777216 := by omega
    have l2 : count ≤ 16777216 := by omega
    have l3 : acc.length < 16777216 := by omega
    simp -implicitDefEqProofs [rangeD, forL, rk, e1, e2, line, knd, appD, hm, l1, l2, l3, e3]
theorem low_fr {a b : Int} (hb : 1 ≤ b) (ha : a.natAbs ≤ 10) (hb2 : b.natAbs ≤ 10) : Int.gcd a b ≠ 0 ∧ Frc (.tup [.int (a.fdiv (Int.gcd a b)), .int (b.fdiv (Int.gcd a b))]) := by
  have hg : 0 < Int.gcd a b := Int.gcd_pos_of_ne_zero_right a (by omega)
  have d1 : ((Int.gcd a b : Nat) : Int) ∣ a := Int.gcd_dvd_left a b
  have d2 : ((Int.gcd a b : Nat) : Int) ∣ b := Int.gcd_dvd_right a b
  have g1 := Int.gcd_ediv_gcd_ediv_gcd (i := a) (j := b) hg
  refine ⟨by omega, _, _, rfl, ?_, ?_, ?_, ?_⟩
  · rw [Int.fdiv_eq_ediv_of_nonneg _ (by omega), Int.fdiv_eq_ediv_of_nonneg _ (by omega)]
    exact g1
  · rw [Int.fdiv_eq_ediv_of_nonneg _ (by omega)]
    have := Int.ediv_pos_of_pos_of_dvd (show 0 < b by omega) (by omega) d2
    omega
  · have := fdiv_abs d1 (by omega)
    omega
  · have := fdiv_abs d2 (by omega)
    omega
end PK
end
section
set_option linter.all false
set_option maxRecDepth 100000
set_option maxHeartbeats 1000000
/-! PkM9: drawn makes. -/
namespace PK
theorem sem_make (n size phases count : Nat) (hz : size ≤ 900) (hp : 1 ≤ phases) (hp2 : phases ≤ 900) (hc : count ≤ 900) {s : D} (hs : Src s) : ∃ d s', tab.sem (n + 5) 20 [s, .int size, .int phases, .int count] = .ok (d, false, s') ∧ Mk size phases count d ∧ Src s' := by
  rw [sem1 tab (n + 4) 20 b_20 _ _ rfl rfl rfl]
  obtain ⟨s1, ps, x', y', e1, hs1, hl1, hp1⟩ := phase_loop n size phases count hz hp hc phases 0 s [] none none hs (by simp; omega) (by simp)
  obtain ⟨vs, env', e2, ⟨s2, hs2, rfl⟩, hl, hf⟩ := comp_draw (I := fun e => ∃ s', Src s' ∧ e = [some (.io, s'), some (.f, .int size), some (.f, .int phases), some (.f, .int count), some (.o, .lst ps), x', none, y', none, none]) (Q := Frc) (vs := [8]) (ft := tF (.nm 8)) (fi := iF (tab.gl (n + 4)) []) (fe := xF (tab.gl (n + 4)) (.call 16 [(.bin .sub (.call 14 [(.v 0), (.c (.int 7))]) (.c (.int 3))), (.bin .add (.c (.int 1)) (.call 14 [(.v 0), (.c (.int 2))]))])) (env := [some (.io, s1), some (.f, .int size), some (.f, .int phases), some (.f, .int count), some (.o, .lst ps), x', none, y', none, none]) size
    (fun j env ⟨s', hs', he⟩ => by
      subst he
      obtain ⟨r, s2, e, r0, r1, hs2⟩ := sem_draw (n + 3) hs' 7 (by omega)
      obtain ⟨q, s3, e', q0, q1, hs3⟩ := sem_draw (n + 3) hs2 2 (by omega)
      obtain ⟨h0, hfr⟩ := low_fr (a := r - 3) (b := 1 + q) (by omega) (by omega) (by omega)
      have e3 := sem_law_low (n + 3) (r - 3) (1 + q) h0
      refine ⟨[some (.io, s'), some (.f, .int size), some (.f, .int phases), some (.f, .int count), some (.o, .lst ps), x', none, y', some (.f, .int j), none], [some (.io, s'), some (.f, .int size), some (.f, .int phases), some (.f, .int count), some (.o, .lst ps), x', none, y', some (.f, .int j), none], (_, false), [some (.io, s3), some (.f, .int size), some (.f, .int phases), some (.f, .int count), some (.o, .lst ps), x', none, y', some (.f, .int j), none], rfl, rfl, ?_, hfr, s3, hs3, rfl⟩
      simp -implicitDefEqProofs [e, e', e3]) ⟨s1, hs1, rfl⟩
  obtain ⟨r, s3, e3, r0, r1, hs3⟩ := sem_draw (n + 3) hs2 phases (by omega)
  refine ⟨_, s3, ?_, ⟨r, vs, ps, rfl, r0, r1, hl, hf, by simpa using hl1, hp1⟩, hs3⟩
  have rk : rngOk (size : Int) = true := by simp [rngOk]; omega
  have rk2 : rngOk (phases : Int) = true := by simp [rngOk]; omega
  have l1 : size ≤ 16777216 := by omega
  simp -implicitDefEqProofs [b_20, e1, rk, rk2, e2, e3, line, hl, l1]
/-- a make that was drawn is a make -/
theorem fm_isForm {size : Nat} {d : D} (h : Fm size d) : isForm size d = true := by
  obtain ⟨is, rfl, h, _⟩ := h
  rw [isForm_ints]
  exact h
theorem mv_isMove {size phases : Nat} {d : D} (h : Mv size phases d) : isMove size phases d = true := by
  obtain ⟨r, fs, rfl, h0, h1, hl, hf⟩ := h
  have a : fs.all (isForm size) = true := List.all_eq_true.mpr fun f hm => fm_isForm (hf f hm)
  have b : r ≤ (phases : Int) - 1 := by omega
  simp [isMove, isBet, h0, b, hl, a]
theorem ph_isPhase {size phases count : Nat} (h1 : 1 ≤ count) (h5 : count ≤ 5) {d : D} (h : Ph size phases count d) : isPhase size phases d = true ∧ movesOf d = count := by
  obtain ⟨f, ms, rfl, hf, hl, hm⟩ := h
  have a : ms.all (isMove size phases) = true := List.all_eq_true.mpr fun f h => mv_isMove (hm f h)
  refine ⟨?_, hl⟩
  simp [isPhase, fm_isForm hf, hl, h1, h5, a]
theorem fr_isFrac {d : D} (h : Frc d) : isFrac d = true := by
  obtain ⟨a, b, rfl, hg, hb, _⟩ := h
  have : 0 < b := by omega
  simp [isFrac, hg, hb, this]
end PK
end
section
set_option linter.all false
set_option maxRecDepth 100000
set_option maxHeartbeats 1000000
/-! PkM10: drawn makes are makes; data drawn out of them. -/
namespace PK
theorem mk_isMake {size phases count : Nat} (hz : size ≤ 4) (hp : 1 ≤ phases) (hp5 : phases ≤ 5) (h1 : 1 ≤ count) (h5 : count ≤ 5) {d : D} (h : Mk size phases count d) : isMake d = true := by
  obtain ⟨r, vs, ps, rfl, r0, r1, hv, hvf, hl, hps⟩ := h
  have a : vs.all isFrac = true := List.all_eq_true.mpr fun v h => fr_isFrac (hvf v h)
  have b : ps.all (isPhase vs.length ps.length) = true := List.all_eq_true.mpr fun p h => by
    rw [hv, hl]
    exact (ph_isPhase h1 h5 (hps p h)).1
  have c : movesOf (ps.headD .non) = count := by
    cases ps with
    | nil => simp at hl; omega
    | cons p q => exact (ph_isPhase h1 h5 (hps p List.mem_cons_self)).2
  have e : (ps.all fun p => decide (movesOf p = movesOf (ps.headD .non))) = true := List.all_eq_true.mpr fun p h => by
    rw [c, (ph_isPhase h1 h5 (hps p h)).2]
    simp
  have g : isBet 0 ((ps.length : Int) - 1) (.int r) = true := by
    have : r ≤ (ps.length : Int) - 1 := by omega
    simp [isBet, r0, this]
  have l1 : vs.length ≤ 4 := by omega
  have l2 : 1 ≤ ps.length := by omega
  have l3 : ps.length ≤ 5 := by omega
  simp only [isMake, a, b, e, g, l1, l2, l3, decide_true, Bool.and_true]
/-- ints and tuples of such, depth at most k -/
def Tree : Nat → D → Prop
  | 0, d => ∃ i : Int, d = .int i ∧ i.natAbs ≤ 10
  | k + 1, d => (∃ i : Int, d = .int i ∧ i.natAbs ≤ 10) ∨ ∃ xs, d = .tup xs ∧ xs.length ≤ 100 ∧ ∀ x ∈ xs, Tree k x
theorem Tree.int (k : Nat) {i : Int} (h : i.natAbs ≤ 10) : Tree k (.int i) := by
  cases k with
  | zero => exact ⟨i, rfl, h⟩
  | succ k => exact .inl ⟨i, rfl, h⟩
theorem Tree.tup {k : Nat} {xs : List D} (h : xs.length ≤ 100) (hx : ∀ x ∈ xs, Tree k x) : Tree (k + 1) (.tup xs) := .inr ⟨xs, rfl, h, hx⟩
theorem Tree.tame : ∀ {k m : Nat} {d : D}, k ≤ m → Tree k d → PK.tame m d = true
  | 0, m, d, _, ⟨i, e, h⟩ => by
    subst e
    simp only [PK.tame]
  | k + 1, m, d, hm, h => by
    rcases h with ⟨i, rfl, h⟩ | ⟨xs, rfl, h, hx⟩
    · simp only [PK.tame]
    · obtain ⟨m, rfl⟩ : ∃ m', m = m' + 1 := ⟨m - 1, by omega⟩
      simp only [PK.tame, Bool.and_eq_true, decide_eq_true_eq]
      exact ⟨by omega, tames_of fun x hm' => Tree.tame (by omega) (hx x hm')⟩
theorem fm_tree {size : Nat} (hz : size ≤ 50) {d : D} (h : Fm size d) (k : Nat) : Tree (k + 1) d := by
  obtain ⟨is, rfl, h, hi, _⟩ := h
  have hl : is.length = size + 2 := by
    simp only [okForm, Bool.and_eq_true, decide_eq_true_eq] at h
    exact h.1.1
  refine .tup (by simp; omega) fun x hx => ?_
  obtain ⟨i, hm, rfl⟩ := List.mem_map.mp hx
  exact .int k (hi i hm)
theorem mk_tree {size phases count : Nat} (hz : size ≤ 4) (hp5 : phases ≤ 5) (h5 : count ≤ 5) {d : D} (h : Mk size phases count d) : Tree 7 d := by
  obtain ⟨r, vs, ps, rfl, r0, r1, hv, hvf, hl, hps⟩ := h
  refine .tup (by simp) fun x hx => ?_
  simp at hx
  rcases hx with rfl | rfl | rfl
  · exact .int 6 (by omega)
  · refine .tup (by omega) fun v hm => ?_
    obtain ⟨a, b, rfl, _, _, ha, hb⟩ := hvf v hm
    refine .tup (by simp) fun y hy => ?_
    simp at hy
    rcases hy with rfl | rfl
    · exact .int 4 ha
    · exact .int 4 hb
  · refine .tup (by omega) fun p hm => ?_
    obtain ⟨f, ms, rfl, hf, hml, hmv⟩ := hps p hm
    refine .tup (by simp) fun y hy => ?_
    simp at hy
    rcases hy with rfl | rfl
    · exact fm_tree (by omega) hf 3
    · refine .tup (by omega) fun m hmm => ?_
      obtain ⟨q, fs, rfl, q0, q1, hfl, hff⟩ := hmv m hmm
      refine .tup (by simp) fun z hz => ?_
      simp at hz
      rcases hz with rfl | rfl
      · exact .int 2 (by omega)
      · exact .tup (by omega) fun w hw => fm_tree (by omega) (hff w hw) 0
end PK
end
section
set_option linter.all false
set_option maxRecDepth 100000
set_option maxHeartbeats 1000000
/-! PkM11: data drawn out of makes. -/
namespace PK
theorem optI_no (x : X) : optI .no .non = .ok none := rfl
/-- the second half of _law_parted -/
def partB : List S := [.iff (.cmp .eq (.call 14 [(.v 0), (.c (.int 3))]) (.c (.int 0))) [.set (.nm 4) (.lst [(.c .non), (.c (.bl true)), (.c (.bl false)), (.c (.int 0)), (.c (.int 1)), (.c (.int 2)), (.neg (.c (.int 1))), (.c (.int 5)), (.c (.int 7)), (.c (.str [97])), (.tup []), (.lst []), (.tup [(.c (.int 0)), (.c (.int 1))]), (.tup [(.c (.int 1)), (.c (.int 0))]), (.lst [(.c (.int 0)), (.c (.int 1))]), (.tup [(.c (.int 2)), (.c (.int 4))]), (.bin .pow (.c (.int 10)) (.c (.int 30)))]), .ret (.call 15 [(.v 0), (.v 4)])] [],
  .iff (.bi (.isi .int) [(.v 1)]) [.ret (.call 15 [(.v 0), (.lst [(.bin .add (.v 1) (.c (.int 1))), (.bin .sub (.v 1) (.c (.int 1))), (.bin .mul (.c (.int 2)) (.v 1)), (.bin .sub (.c (.int 0)) (.v 1))])])] [],
  .ret (.ite (.bi (.isi .tuple) [(.v 1)]) (.bi .list [(.v 1)]) (.c .non))]
theorem p30 : binD .pow (.int 10) (.int 30) = some (.int 1000000000000000000000000000000, false) := by
  rw [bin_pow_int 10 30 (by simp [powOk])]
  simp only [Option.some.injEq, Prod.mk.injEq, D.int.injEq, and_true]
  exact Int.ofNat_inj.mpr (by decide : 10 ^ 30 = 1000000000000000000000000000000)
theorem part_b (n k : Nat) {s d : D} (hs : Src s) (hd : Tree k d) : ∃ e fr s', (evSs (tab.gl (n + 2)) partB [some (.io, s), some (.f, d), none, none, none]).bind end1 = .ok (e, fr, s') ∧ tame (k + 1) e = true ∧ Src s' := by
  obtain ⟨r, s1, e1, r0, r1, hs1⟩ := sem_draw (n + 1) hs 3 (by omega)
  by_cases h0 : r = 0
  · obtain ⟨c, s2, e2, hc, hs2⟩ := sem_choice n hs1 [.non, .bl true, .bl false, .int 0, .int 1, .int 2, .int (-1), .int 5, .int 7, .str [97], .tup [], .lst [], .tup [.int 0, .int 1], .tup [.int 1, .int 0], .lst [.int 0, .int 1], .tup [.int 2, .int 4], .int 1000000000000000000000000000000] (by simp)
    refine ⟨c, false, s2, ?_, ?_, hs2⟩
    · simp -implicitDefEqProofs [partB, e1, h0, line, p30, e2]
    · simp only [List.mem_cons, List.not_mem_nil, or_false] at hc
      rcases hc with rfl | rfl | rfl | rfl | rfl | rfl | rfl | rfl | rfl | rfl | rfl | rfl | rfl | rfl | rfl | rfl | rfl <;> simp [tame, tames]
  · cases d with
    | int i =>
      have hi : i.natAbs ≤ 10 := by
        cases k with
        | zero => obtain ⟨j, e, h⟩ := hd; cases e; exact h
        | succ k =>
          rcases hd with ⟨j, e, h⟩ | ⟨xs, e, _⟩
          · cases e; exact h
          · cases e
      obtain ⟨c, s2, e2, hc, hs2⟩ := sem_choice n hs1 [.int (i + 1), .int (i - 1), .int (2 * i), .int (0 - i)] (by simp)
      have m := mulOk_small 2 i (by omega) (by omega)
      refine ⟨c, false, s2, ?_, ?_, hs2⟩
      · simp only [Int.zero_sub] at e2
        simp -implicitDefEqProofs [partB, e1, h0, line, bin_mul_int 2 i m, e2]
      · simp only [List.mem_cons, List.not_mem_nil, or_false] at hc
        rcases hc with rfl | rfl | rfl | rfl <;> (simp only [tame])
    | tup xs =>
      have ht : tame (k + 1) (.lst xs) = true := by
        cases k with
        | zero => obtain ⟨j, e, h⟩ := hd; cases e
        | succ k =>
          have := Tree.tame (m := k + 1 + 1) (by omega) hd
          simpa [tame] using this
      refine ⟨.lst xs, true, s1, ?_, ht, hs1⟩
      simp -implicitDefEqProofs [partB, e1, h0]
    | _ =>
      exfalso
      cases k with
      | zero => obtain ⟨j, e, h⟩ := hd; cases e
      | succ k => rcases hd with ⟨j, e, h⟩ | ⟨xs, e, _⟩ <;> cases e
end PK
end
section
set_option linter.all false
set_option maxRecDepth 100000
set_option maxHeartbeats 1000000
/-! PkM12: data drawn out of makes, by recursion. -/
namespace PK
theorem optI_none : optI .no .non = .ok none := id rfl
theorem optI_v (i : Nat) (j : Int) : optI (.v i) (.int j) = .ok (some j) := id rfl
theorem optI_bin (o : Bop) (a b : X) (j : Int) : optI (.bin o a b) (.int j) = .ok (some j) := id rfl
theorem cut_mem {α : Type} {xs : List α} {lo hi : Option Int} {x : α} (h : x ∈ cut xs lo hi) : x ∈ xs := List.mem_of_mem_drop (List.mem_of_mem_take h)
theorem cut_len {α : Type} (xs : List α) (lo hi : Option Int) : (cut xs lo hi).length ≤ xs.length := by
  unfold cut
  rw [List.length_take, List.length_drop]
  omega
theorem sem_parted (n : Nat) : ∀ (k : Nat) {s d : D}, Src s → Tree k d → k ≤ 30 → ∃ e fr s', tab.sem (n + k + 3) 21 [s, d] = .ok (e, fr, s') ∧ tame (k + 1) e = true ∧ Src s' := by
  intro k
  induction k with
  | zero =>
    intro s d hs hd _
    obtain ⟨e, fr, s', he, ht, hs'⟩ := part_b n 0 hs hd
    obtain ⟨i, rfl, hi⟩ := hd
    refine ⟨e, fr, s', ?_, ht, hs'⟩
    rw [sem1 tab (n + 2) 21 b_21 _ _ rfl rfl rfl, ← he]
    have hb : b_21.body = b_21.body.headD .pass :: partB := rfl
    rw [hb, evSs_cons]
    have h1 : evS (tab.gl (n + 2)) (b_21.body.headD .pass) (some (.io, s) :: ([D.int i].map (fun d => some (.f, d)) ++ List.replicate (b_21.n - b_21.np) none)) = .ok (.nx [some (.io, s), some (.f, .int i), none, none, none]) := by
      simp -implicitDefEqProofs [b_21]
    rw [h1]
    rfl
  | succ k ih =>
    intro s d hs hd hk
    rw [show n + (k + 1) + 3 = (n + k + 3) + 1 by omega, sem1 tab (n + k + 3) 21 b_21 _ _ rfl rfl rfl]
    have hb : b_21.body = b_21.body.headD .pass :: partB := rfl
    have fall : ∀ s1, Src s1 → evS (tab.gl (n + k + 3)) (b_21.body.headD .pass) (some (.io, s) :: ([d].map (fun d => some (.f, d)) ++ List.replicate (b_21.n - b_21.np) none)) = .ok (.nx [some (.io, s1), some (.f, d), none, none, none]) → ∃ e fr s', (evSs (tab.gl (n + k + 3)) b_21.body (some (.io, s) :: ([d].map (fun d => some (.f, d)) ++ List.replicate (b_21.n - b_21.np) none))).bind end1 = .ok (e, fr, s') ∧ tame (k + 1 + 1) e = true ∧ Src s' := by
      intro s1 hs1 h1
      obtain ⟨e, fr, s', he, ht, hs'⟩ := part_b (n + k + 1) (k + 1) hs1 hd
      refine ⟨e, fr, s', ?_, ht, hs'⟩
      rw [← he, hb, evSs_cons, h1]
      rfl
    rcases hd with ⟨i, rfl, hi⟩ | ⟨xs, rfl, hl, hx⟩
    · exact fall s hs (by simp -implicitDefEqProofs [b_21])
    · have hd : Tree (k + 1) (.tup xs) := .tup hl hx
      have hc : cmpD .ne (.tup xs) (.tup []) = some (!xs.isEmpty) := by
        have h1 : shal 40 (.tup xs) = true := shal_up (by omega) (tame_shal (Tree.tame (Nat.le_refl _) hd))
        have h2 : shal 40 (.tup []) = true := by simp [shal, shals]
        simp only [cmpD, h1, h2, Bool.and_self, if_true]
        cases xs <;> simp [eqD, eqDs]
      cases he : xs.isEmpty with
      | true => exact fall s hs (by simp -implicitDefEqProofs [b_21, hc, he])
      | false =>
        have hne : (1 : Int) ≤ xs.length := by
          cases xs with
          | nil => simp at he
          | cons x r => simp; omega
        obtain ⟨r, s1, e1, r0, r1, hs1⟩ := sem_draw (n + k + 2) hs 5 (by omega)
        by_cases h0 : 0 < r
        · obtain ⟨a, s2, e2, a0, a1, hs2⟩ := sem_draw (n + k + 2) hs1 xs.length hne
          obtain ⟨w, s3, e3, w0, w1, hs3⟩ := sem_draw (n + k + 2) hs2 9 (by omega)
          have l16 : ∀ a b c d, (cut xs a b).length + (cut xs c d).length ≤ 16777216 := fun a b c d => by
            have := cut_len xs a b
            have := cut_len xs c d
            omega
          have tm : ∀ x ∈ xs, tame (k + 1) x = true := fun x h => Tree.tame (by omega) (hx x h)
          have two : ∀ a b c d, tame (k + 1 + 1) (.tup (cut xs a b ++ cut xs c d)) = true := fun a b c d => by
            simp only [tame, Bool.and_eq_true, decide_eq_true_eq, List.length_append]
            refine ⟨by have := cut_len xs a b; have := cut_len xs c d; omega, tames_of fun x h => ?_⟩
            rcases List.mem_append.mp h with h | h
            · exact tm x (cut_mem h)
            · exact tm x (cut_mem h)
          by_cases hw0 : w = 0
          · refine ⟨_, false, s3, ?_, two none (some a) (some (a + 1)) none, hs3⟩
            simp -implicitDefEqProofs [b_21, hc, he, e1, h0, e2, e3, hw0, optI_none, optI_v, optI_bin, slD, binD, line, l16]
          · by_cases hw1 : w = 1
            · refine ⟨_, false, s3, ?_, two none (some (a + 1)) (some a) none, hs3⟩
              simp -implicitDefEqProofs [b_21, hc, he, e1, h0, e2, e3, hw1, optI_none, optI_v, optI_bin, slD, binD, line, l16]
            · obtain ⟨j, rfl⟩ : ∃ j : Nat, a = j := ⟨a.toNat, by omega⟩
              have hj : j < xs.length := by omega
              have ex : atZ xs (j : Int) = some xs[j] := by rw [atZ_nat]; simp [hj]
              obtain ⟨e, fr, s4, e4, ht, hs4⟩ := ih hs3 (hx _ (List.getElem_mem hj)) (by omega)
              have l17 : (cut xs none (some (j : Int))).length + 1 ≤ 16777216 := by
                have := cut_len xs none (some (j : Int))
                omega
              have l18 : (cut xs none (some (j : Int))).length + (1 + (cut xs (some ((j : Int) + 1)) none).length) ≤ 16777216 := by
                have := cut_len xs none (some (j : Int))
                have := cut_len xs (some ((j : Int) + 1)) none
                omega
              have l19 : (cut xs none (some (j : Int))).length + 1 + (cut xs (some ((j : Int) + 1)) none).length ≤ 16777216 := by omega
              refine ⟨.tup (cut xs none (some (j : Int)) ++ [e] ++ cut xs (some ((j : Int) + 1)) none), false, s4, ?_, ?_, hs4⟩
              · simp -implicitDefEqProofs [b_21, hc, he, e1, h0, e2, e3, hw0, hw1, ex, e4, optI_none, optI_v, optI_bin, slD, binD, line, l17, l18, l19]
              · simp only [tame, Bool.and_eq_true, decide_eq_true_eq]
                refine ⟨by simp; have := cut_len xs none (some (j : Int)); have := cut_len xs (some ((j : Int) + 1)) none; omega, tames_of fun x h => ?_⟩
                simp only [List.mem_append, List.mem_singleton] at h
                rcases h with (h | rfl) | h
                · exact tm x (cut_mem h)
                · exact ht
                · exact tm x (cut_mem h)
        · exact fall s1 hs1 (by simp -implicitDefEqProofs [b_21, hc, he, e1, h0])
end PK
end
section
set_option linter.all false
set_option maxRecDepth 100000
set_option maxHeartbeats 1000000
/-! PkM13: k01's law. -/
namespace PK
theorem for_draw {I : Env → Prop} {ft : D → Env → Res Env} {fb : Env → Res Out} {env : Env} (m : Nat) (h : ∀ (j : Nat) env, j < m → I env → ∃ env1 env2, ft (.int j) env = .ok env1 ∧ fb env1 = .ok (.nx env2) ∧ I env2) (h0 : I env) :
    ∃ env', forL ft fb (rangeD 0 m) env = .ok (.nx env') ∧ I env' := by
  obtain ⟨env', e, hi⟩ := forL_inv (e := fun i : Nat => D.int (0 + i)) (ft := ft) (fb := fb) (I := I) (xs := List.range m) (env := env) (fun x hx env hi => by
    have := h x env (List.mem_range.mp hx) hi
    simpa using this) h0
  rw [← map_range] at e
  exact ⟨env', e, hi⟩
theorem sem_need (n k : Nat) (d : D) (hk : k ≤ 40) (h : tame k d = true) (hm : isMake d = true) : tab.sem (n + 7) 9 [d] = .ok (.non, false, .non) := by
  have e := sem_is_make n k d h
  rw [hm] at e
  rw [sem0 tab (n + 6) 9 b_9 _ rfl rfl rfl]
  simp -implicitDefEqProofs [b_9, e]
theorem sem_count (n : Nat) {size phases count : Nat} (hp : 1 ≤ phases) {d : D} (h : Mk size phases count d) : tab.sem (n + 1) 10 [d] = .ok (.int count, false, .non) := by
  obtain ⟨r, vs, ps, rfl, r0, r1, hv, hvf, hl, hps⟩ := h
  cases ps with
  | nil => simp at hl; omega
  | cons p q =>
    obtain ⟨f, ms, rfl, hf, hml, hmv⟩ := hps p List.mem_cons_self
    rw [sem0 tab n 10 b_10 _ rfl rfl rfl]
    simp -implicitDefEqProofs [b_10, hml]
theorem sem_keys (n : Nat) {size phases count : Nat} (hz : size ≤ 4) (hp : 1 ≤ phases) (hp5 : phases ≤ 5) (h1 : 1 ≤ count) (h5 : count ≤ 5) {d : D} (h : Mk size phases count d) : tab.sem (n + 8) 12 [d] = .ok (.str (cut [97, 98, 99, 100, 101] none (some (count : Int))), false, .non) := by
  have e1 := sem_need n 7 d (by omega) (Tree.tame (Nat.le_refl _) (mk_tree hz hp5 h5 h)) (mk_isMake hz hp hp5 h1 h5 h)
  have e2 : tab.sem (n + 7) 11 [d] = .ok (.str (cut [97, 98, 99, 100, 101] none (some (count : Int))), false, .non) := by
    have e3 := sem_count (n + 5) hp h
    rw [sem0 tab (n + 6) 11 b_11 _ rfl rfl rfl]
    simp -implicitDefEqProofs [b_11, e3, optI, isNo, slD, line]
  rw [sem0 tab (n + 7) 12 b_12 _ rfl rfl rfl]
  simp -implicitDefEqProofs [b_12, e1, e2]
end PK
end
section
set_option linter.all false
set_option maxRecDepth 100000
set_option maxHeartbeats 1000000
/-! PkQ1: fractions: what the program's and the laws' arithmetic computes, as rational numbers. -/
namespace PK
/-- a rational number of at most K bits above and below -/
def Sz (K : Nat) (q : Rat) : Prop := q.num.natAbs < 2 ^ K ∧ q.den < 2 ^ K
theorem lt_pow_log {m K : Nat} (h : m < 2 ^ K) : m.log2 ≤ K := by
  by_cases h0 : m = 0
  · subst h0; simp
  · exact Nat.le_of_lt ((Nat.log2_lt h0).mpr h)
theorem mulOk_of {i j : Int} {K L : Nat} (h1 : i.natAbs < 2 ^ K) (h2 : j.natAbs < 2 ^ L) (h : K + L < 134000000) : mulOk i j = true := by
  have a := lt_pow_log h1
  have b := lt_pow_log h2
  simp only [mulOk, decide_eq_true_eq]
  omega
theorem Sz.mono {K L : Nat} {q : Rat} (h : Sz K q) (hl : K ≤ L) : Sz L q :=
  ⟨Nat.lt_of_lt_of_le h.1 (Nat.pow_le_pow_right (by omega) hl), Nat.lt_of_lt_of_le h.2 (Nat.pow_le_pow_right (by omega) hl)⟩
theorem mul_int {i j : Int} (h : mulOk i j = true) : binD .mul (.int i) (.int j) = some (.int (i * j), false) := by simp [binD, h]
/-- a fraction in lowest terms, bottom positive -/
theorem low_frac {a b : Int} (hb : 0 < b) : (D.tup [.int (a.fdiv (Int.gcd a b)), .int (b.fdiv (Int.gcd a b))]) = frac (Rat.divInt a b) := by
  have hg : 0 < Int.gcd a b := Int.gcd_pos_of_ne_zero_right a (by omega)
  have e1 : (Rat.divInt a b).num = a.fdiv (Int.gcd a b) := by
    rw [Rat.num_divInt, Int.sign_eq_one_of_pos hb, Int.one_mul, Int.gcd_comm, Int.fdiv_eq_ediv_of_nonneg _ (by omega)]
  have e2 : ((Rat.divInt a b).den : Int) = b.fdiv (Int.gcd a b) := by
    rw [Rat.den_divInt, if_neg (by omega), Int.gcd_comm, Int.fdiv_eq_ediv_of_nonneg _ (by omega), Int.natCast_ediv, Int.natAbs_of_nonneg (by omega)]
  rw [frac, e1, e2]
theorem low_frac_neg {a b : Int} (hb : b < 0) : (D.tup [.int (a.fdiv (-(Int.gcd a b : Int))), .int (b.fdiv (-(Int.gcd a b : Int)))]) = frac (Rat.divInt a b) := by
  have e : Rat.divInt a b = Rat.divInt (-a) (-b) := (Rat.neg_divInt_neg a b).symm
  rw [e, ← low_frac (a := -a) (b := -b) (by omega)]
  have g : Int.gcd (-a) (-b) = Int.gcd a b := by simp
  rw [g]
  have hg : 0 < Int.gcd a b := Int.gcd_pos_of_ne_zero_right a (by omega)
  have k : ∀ x : Int, ((Int.gcd a b : Nat) : Int) ∣ x → x.fdiv (-(Int.gcd a b : Int)) = (-x).fdiv (Int.gcd a b) := by
    intro x ⟨c, hc⟩
    rw [hc, show -((Int.gcd a b : Int) * c) = (Int.gcd a b : Int) * (-c) by grind, Int.mul_fdiv_cancel_left _ (by omega)]
    rw [show (Int.gcd a b : Int) * c = -(Int.gcd a b : Int) * (-c) by grind, Int.mul_fdiv_cancel_left _ (by omega)]
  rw [k a (Int.gcd_dvd_left a b), k b (Int.gcd_dvd_right a b)]
theorem sem_lowest (n : Nat) (a b : Int) (hb : b ≠ 0) : tab.sem (n + 2) 28 [.int a, .int b] = .ok (frac (Rat.divInt a b), false, .non) := by
  rw [sem0 tab (n + 1) 28 b_28 _ rfl rfl rfl]
  have hg : 0 < Int.gcd a b := Int.gcd_pos_of_ne_zero_right a hb
  have hg' : ((Int.gcd a b : Nat) : Int) ≠ 0 := by omega
  have hg2 : -((Int.gcd a b : Nat) : Int) ≠ 0 := by omega
  by_cases h : b < 0
  · rw [← low_frac_neg h]
    simp -implicitDefEqProofs [b_28, sem_divisor, h, line, bin_div_int a _ hg2, bin_div_int b _ hg2]
  · rw [← low_frac (by omega : 0 < b)]
    simp -implicitDefEqProofs [b_28, sem_divisor, h, line, bin_div_int a _ hg', bin_div_int b _ hg']
theorem sem_law_lowQ (n : Nat) (a b : Int) (hb : 0 < b) : tab.sem (n + 1) 16 [.int a, .int b] = .ok (frac (Rat.divInt a b), false, .non) := by
  have hg : 0 < Int.gcd a b := Int.gcd_pos_of_ne_zero_right a (by omega)
  rw [sem_law_low n a b (by omega), low_frac hb]
theorem den_pos (q : Rat) : (0 : Int) < q.den := by have := q.den_pos; omega
theorem den_ne (q : Rat) : (q.den : Int) ≠ 0 := by have := den_pos q; omega
theorem ix_frac0 (q : Rat) : ixD (frac q) (.int 0) = some (.int q.num) := rfl
theorem ix_frac1 (q : Rat) : ixD (frac q) (.int 1) = some (.int q.den) := rfl
theorem add_divInt (p q : Rat) : Rat.divInt (p.num * q.den + q.num * p.den) (p.den * q.den : Int) = p + q := by
  rw [Rat.add_def', show (p.den * q.den : Int) = ((p.den * q.den : Nat) : Int) by simp, Rat.divInt_ofNat]
theorem mul_divInt (p q : Rat) : Rat.divInt (p.num * q.num) (p.den * q.den : Int) = p * q := by
  rw [Rat.mul_def', show (p.den * q.den : Int) = ((p.den * q.den : Nat) : Int) by simp, Rat.divInt_ofNat]
theorem div_divInt (p q : Rat) (hq : q ≠ 0) : Rat.divInt (p.num * q.den) (p.den * q.num : Int) = p / q := by
  have h1 : (q.num : Rat) ≠ 0 := by
    have := mt Rat.num_eq_zero.mp hq
    intro h
    exact this (by exact_mod_cast h)
  have h2 : (p.den : Rat) ≠ 0 := by have := p.den_nz; intro h; exact this (by exact_mod_cast h)
  have h3 : (q.den : Rat) ≠ 0 := by have := q.den_nz; intro h; exact this (by exact_mod_cast h)
  have e1 : p = (p.num : Rat) / (p.den : Rat) := by
    have := Rat.num_divInt_den p
    rw [Rat.divInt_eq_div] at this
    exact this.symm
  have e2 : q = (q.num : Rat) / (q.den : Rat) := by
    have := Rat.num_divInt_den q
    rw [Rat.divInt_eq_div] at this
    exact this.symm
  rw [Rat.divInt_eq_div]
  conv => rhs; rw [e1, e2]
  simp only [Rat.intCast_mul, Rat.intCast_natCast]
  grind
variable {K : Nat} {p q : Rat}
theorem Sz.nn (hK : K + K < 134000000) (h : Sz K p) (h2 : Sz K q) : mulOk p.num q.num = true := mulOk_of h.1 h2.1 hK
theorem Sz.nd (hK : K + K < 134000000) (h : Sz K p) (h2 : Sz K q) : mulOk p.num q.den = true := mulOk_of h.1 (by simpa using h2.2) hK
theorem Sz.dn (hK : K + K < 134000000) (h : Sz K p) (h2 : Sz K q) : mulOk p.den q.num = true := mulOk_of (by simpa using h.2) h2.1 hK
theorem Sz.dd (hK : K + K < 134000000) (h : Sz K p) (h2 : Sz K q) : mulOk p.den q.den = true := mulOk_of (by simpa using h.2) (by simpa using h2.2) hK
theorem sem_plus (n : Nat) (hK : K + K < 134000000) (hp : Sz K p) (hq : Sz K q) : tab.sem (n + 3) 29 [frac p, frac q] = .ok (frac (p + q), false, .non) := by
  rw [sem0 tab (n + 2) 29 b_29 _ rfl rfl rfl, ← add_divInt]
  have e := sem_lowest n (p.num * q.den + q.num * p.den) (p.den * q.den) (Int.mul_ne_zero (den_ne p) (den_ne q))
  simp -implicitDefEqProofs [b_29, ix_frac0, ix_frac1, mul_int (Sz.nd hK hp hq), mul_int (Sz.nd hK hq hp), mul_int (Sz.dd hK hp hq), e]
theorem sem_times (n : Nat) (hK : K + K < 134000000) (hp : Sz K p) (hq : Sz K q) : tab.sem (n + 3) 30 [frac p, frac q] = .ok (frac (p * q), false, .non) := by
  rw [sem0 tab (n + 2) 30 b_30 _ rfl rfl rfl, ← mul_divInt]
  have e := sem_lowest n (p.num * q.num) (p.den * q.den) (Int.mul_ne_zero (den_ne p) (den_ne q))
  simp -implicitDefEqProofs [b_30, ix_frac0, ix_frac1, mul_int (Sz.nn hK hp hq), mul_int (Sz.dd hK hp hq), e]
theorem sem_law_sum (n : Nat) (hK : K + K < 134000000) (hp : Sz K p) (hq : Sz K q) : tab.sem (n + 2) 45 [frac p, frac q] = .ok (frac (p + q), false, .non) := by
  rw [sem0 tab (n + 1) 45 b_45 _ rfl rfl rfl, ← add_divInt]
  have e := sem_law_lowQ n (p.num * q.den + q.num * p.den) (p.den * q.den) (Int.mul_pos (den_pos p) (den_pos q))
  simp -implicitDefEqProofs [b_45, ix_frac0, ix_frac1, mul_int (Sz.nd hK hp hq), mul_int (Sz.nd hK hq hp), mul_int (Sz.dd hK hp hq), e]
theorem sem_law_times (n : Nat) (hK : K + K < 134000000) (hp : Sz K p) (hq : Sz K q) : tab.sem (n + 2) 46 [frac p, frac q] = .ok (frac (p * q), false, .non) := by
  rw [sem0 tab (n + 1) 46 b_46 _ rfl rfl rfl, ← mul_divInt]
  have e := sem_law_lowQ n (p.num * q.num) (p.den * q.den) (Int.mul_pos (den_pos p) (den_pos q))
  simp -implicitDefEqProofs [b_46, ix_frac0, ix_frac1, mul_int (Sz.nn hK hp hq), mul_int (Sz.dd hK hp hq), e]
theorem frac_zero : frac 0 = .tup [.int 0, .int 1] := rfl
theorem frac_one : frac 1 = .tup [.int 1, .int 1] := rfl
theorem frac_int (i : Int) : frac (i : Rat) = .tup [.int i, .int 1] := rfl
theorem frac_inj {p q : Rat} : frac p = frac q ↔ p = q := by
  constructor
  · intro h
    simp only [frac, D.tup.injEq, List.cons.injEq, D.int.injEq, and_true] at h
    exact Rat.ext h.1 (by omega)
  · intro h; rw [h]
theorem eqD_frac (p q : Rat) : eqD (frac p) (frac q) = decide (p = q) := by
  simp only [frac, eqD, eqDs, Bool.and_true]
  by_cases h : p = q
  · subst h; simp
  · simp only [h, decide_false]
    have := mt (frac_inj (p := p) (q := q)).mp h
    simp only [frac, D.tup.injEq, List.cons.injEq, D.int.injEq, and_true] at this
    simpa [Bool.and_eq_false_iff] using this
theorem shal_frac (n : Nat) (p : Rat) : shal (n + 1) (frac p) = true := by simp [frac, shal, shals]
theorem ne_frac (p q : Rat) : cmpD .ne (frac p) (frac q) = some (!decide (p = q)) := by
  simp [cmpD, shal_frac, eqD_frac]
theorem eq_frac (p q : Rat) : cmpD .eq (frac p) (frac q) = some (decide (p = q)) := by
  simp [cmpD, shal_frac, eqD_frac]
end PK
end
section
set_option linter.all false
set_option maxRecDepth 100000
set_option maxHeartbeats 1000000
/-! PkQ2: vectors of rational numbers, bounds of their digits, dot. -/
namespace PK
theorem lt_pow_mul {a b A B : Nat} (h1 : a < 2 ^ A) (h2 : b < 2 ^ B) : a * b < 2 ^ (A + B) := by
  rw [Nat.pow_add]
  exact Nat.mul_lt_mul'' h1 h2
theorem pow_le_pow2 {A B : Nat} (h : A ≤ B) : 2 ^ A ≤ 2 ^ B := Nat.pow_le_pow_right (by omega) h
theorem int_cast_ne {e : Int} (h : e ≠ 0) : (e : Rat) ≠ 0 := by
  intro h2
  exact h (by exact_mod_cast h2)
theorem eq_divInt {q : Rat} {x e : Int} (he : e ≠ 0) (h : q * e = x) : q = Rat.divInt x e := by
  rw [Rat.divInt_eq_div, ← h, Rat.mul_div_cancel (int_cast_ne he)]
theorem Sz.of_mul {K : Nat} {q : Rat} {x e : Int} (he : e ≠ 0) (h : q * e = x) (hx : x.natAbs < 2 ^ K) (hK : e.natAbs < 2 ^ K) : Sz K q := by
  rw [eq_divInt he h]
  constructor
  · rw [Rat.num_divInt]
    have h1 : (e.sign * x / (e.gcd x : Int)).natAbs ≤ (e.sign * x).natAbs := by
      rw [Int.natAbs_ediv_of_dvd]
      · exact Nat.div_le_self _ _
      · exact Int.dvd_trans (Int.gcd_dvd_right e x) (Int.dvd_mul_left _ _)
    have h2 : (e.sign * x).natAbs ≤ x.natAbs := by
      rw [Int.natAbs_mul, Int.natAbs_sign_of_ne_zero he]
      omega
    omega
  · rw [Rat.den_divInt, if_neg he]
    exact Nat.lt_of_le_of_lt (Nat.div_le_self _ _) hK
theorem natAbs_lt_of {a b : Int} {A : Nat} (h : a.natAbs < 2 ^ A) (h2 : b.natAbs < 2 ^ A) : (a + b).natAbs < 2 ^ (A + 1) := by
  have := Int.natAbs_add_le a b
  rw [Nat.pow_succ]
  omega
theorem natAbs_mul_lt {a b : Int} {A B : Nat} (h : a.natAbs < 2 ^ A) (h2 : b.natAbs < 2 ^ B) : (a * b).natAbs < 2 ^ (A + B) := by
  rw [Int.natAbs_mul]
  exact lt_pow_mul h h2
theorem lt_up {a A B : Nat} (h : a < 2 ^ A) (hl : A ≤ B) : a < 2 ^ B := Nat.lt_of_lt_of_le h (pow_le_pow2 hl)
/-- all items have B bits at most over one bottom -/
def Bd (B : Nat) (v : List Rat) : Prop := ∃ e : Int, e ≠ 0 ∧ e.natAbs < 2 ^ B ∧ ∀ q ∈ v, ∃ x : Int, q * e = x ∧ x.natAbs < 2 ^ B
theorem Bd.sz {B : Nat} {v : List Rat} (h : Bd B v) {q : Rat} (hq : q ∈ v) : Sz B q := by
  obtain ⟨e, he, hb, h⟩ := h
  obtain ⟨x, hx, hb2⟩ := h q hq
  exact Sz.of_mul he hx hb2 hb
theorem Bd.mono {B C : Nat} {v : List Rat} (h : Bd B v) (hl : B ≤ C) : Bd C v := by
  obtain ⟨e, he, hb, h⟩ := h
  exact ⟨e, he, lt_up hb hl, fun q hq => let ⟨x, hx, hb2⟩ := h q hq; ⟨x, hx, lt_up hb2 hl⟩⟩
theorem Bd.sub {B : Nat} {v w : List Rat} (h : Bd B v) (hs : ∀ q ∈ w, q ∈ v) : Bd B w := by
  obtain ⟨e, he, hb, h⟩ := h
  exact ⟨e, he, hb, fun q hq => h q (hs q hq)⟩
theorem Bd.nil : Bd 1 [] := ⟨1, by decide, by decide, by simp⟩
theorem cast_mul (a b : Int) : ((a * b : Int) : Rat) = (a : Rat) * (b : Rat) := Rat.intCast_mul a b
theorem cast_add (a b : Int) : ((a + b : Int) : Rat) = (a : Rat) + (b : Rat) := Rat.intCast_add a b
theorem Bd.app {B C : Nat} {v w : List Rat} (h : Bd B v) (h2 : Bd C w) : Bd (B + C) (v ++ w) := by
  obtain ⟨e, he, hb, h⟩ := h
  obtain ⟨f, hf, hc, h2⟩ := h2
  refine ⟨e * f, Int.mul_ne_zero he hf, natAbs_mul_lt hb hc, fun q hq => ?_⟩
  rcases List.mem_append.mp hq with hq | hq
  · obtain ⟨x, hx, hl⟩ := h q hq
    exact ⟨x * f, by rw [cast_mul, cast_mul, ← hx]; grind, natAbs_mul_lt hl hc⟩
  · obtain ⟨x, hx, hl⟩ := h2 q hq
    exact ⟨x * e, by rw [cast_mul, cast_mul, ← hx]; grind, by rw [Nat.add_comm B C]; exact natAbs_mul_lt hl hb⟩
/-- with 1 at the end -/
theorem Bd.one {B : Nat} {v : List Rat} (h : Bd B v) : Bd B (v ++ [1]) := by
  obtain ⟨e, he, hb, h⟩ := h
  refine ⟨e, he, hb, fun q hq => ?_⟩
  rcases List.mem_append.mp hq with hq | hq
  · exact h q hq
  · rw [List.mem_singleton.mp hq]
    exact ⟨e, by grind, hb⟩
theorem Bd.zero {B : Nat} {v : List Rat} (h : Bd B v) : Bd B (v ++ [0]) := by
  obtain ⟨e, he, hb, h⟩ := h
  refine ⟨e, he, hb, fun q hq => ?_⟩
  rcases List.mem_append.mp hq with hq | hq
  · exact h q hq
  · rw [List.mem_singleton.mp hq]
    exact ⟨0, by grind, Nat.pow_pos (by omega)⟩
/-- the sum of the products -/
def dotQ : List Rat → List Rat → Rat
  | a :: as, b :: bs => a * b + dotQ as bs
  | _, _ => 0
/-- the loop of dot, from a sum on -/
theorem sz_sum {B C L K : Nat} {e f z : Int} {q : Rat} (he : e ≠ 0) (hf : f ≠ 0) (hb : e.natAbs < 2 ^ B) (hc : f.natAbs < 2 ^ C) {k : Nat} (hz : z.natAbs ≤ k * 2 ^ (B + C)) (h : q * (e * f : Int) = z) (hk : k < 2 ^ L) (hK : B + C + L ≤ K) : Sz K q := by
  refine Sz.of_mul (Int.mul_ne_zero he hf) h ?_ (lt_up (natAbs_mul_lt hb hc) (by omega))
  have : k * 2 ^ (B + C) < 2 ^ L * 2 ^ (B + C) := Nat.mul_lt_mul_of_pos_right hk (Nat.pow_pos (by omega))
  rw [← Nat.pow_add] at this
  exact Nat.lt_of_le_of_lt hz (lt_up this (by omega))
theorem sum_step {B C k : Nat} {e f z x y : Int} {q a b : Rat} (hz : z.natAbs ≤ k * 2 ^ (B + C)) (h : q * (e * f : Int) = z) (ha : a * e = x) (hb : b * f = y) (hx : x.natAbs < 2 ^ B) (hy : y.natAbs < 2 ^ C) : (q + a * b) * (e * f : Int) = (z + x * y : Int) ∧ (z + x * y).natAbs ≤ (k + 1) * 2 ^ (B + C) := by
  constructor
  · simp only [cast_add, cast_mul] at h ⊢
    rw [← h, ← ha, ← hb]
    grind
  · have h1 := Int.natAbs_add_le z (x * y)
    have h2 := natAbs_mul_lt hx hy
    rw [Nat.add_mul]
    omega
theorem dot_loop (n : Nat) {B C L K : Nat} {e f : Int} (he : e ≠ 0) (hf : f ≠ 0) (hbe : e.natAbs < 2 ^ B) (hcf : f.natAbs < 2 ^ C) (hK : B + C + L ≤ K) (hKK : K + K < 134000000) (p q : Slot) : ∀ (as bs : List Rat) (k : Nat) (acc : Rat) (z : Int) (x y : Slot), as.length + k < 2 ^ L →
    (∀ a ∈ as, ∃ x : Int, a * e = x ∧ x.natAbs < 2 ^ B) → (∀ b ∈ bs, ∃ x : Int, b * f = x ∧ x.natAbs < 2 ^ C) → z.natAbs ≤ k * 2 ^ (B + C) → acc * (e * f : Int) = z →
    ∃ x' y', forL (tF (.tp [(.nm 3), (.nm 4)])) (bF (tab.gl (n + 3)) L31_1) (zipD (as.map frac) (bs.map frac)) [p, q, some (.f, frac acc), x, y] = .ok (.nx [p, q, some (.f, frac (acc + dotQ as bs)), x', y'])
  | [], bs, k, acc, z, x, y, hl, ha, hb, hz, hacc => ⟨x, y, by cases bs <;> simp [zipD, forL, dotQ, Rat.add_zero]⟩
  | a :: as, [], k, acc, z, x, y, hl, ha, hb, hz, hacc => ⟨x, y, by simp [zipD, forL, dotQ, Rat.add_zero]⟩
  | a :: as, b :: bs, k, acc, z, x, y, hl, ha, hb, hz, hacc => by
    obtain ⟨u, hu, hub⟩ := ha a List.mem_cons_self
    obtain ⟨v, hv, hvb⟩ := hb b List.mem_cons_self
    have st := sum_step hz hacc hu hv hub hvb
    simp only [List.length_cons] at hl
    obtain ⟨x', y', ih⟩ := dot_loop n he hf hbe hcf hK hKK p q as bs (k + 1) (acc + a * b) (z + u * v) (some (.f, frac a)) (some (.f, frac b)) (by omega) (fun a h => ha a (List.mem_cons_of_mem _ h)) (fun a h => hb a (List.mem_cons_of_mem _ h)) st.2 st.1
    refine ⟨x', y', ?_⟩
    have s1 : Sz K acc := sz_sum he hf hbe hcf hz hacc (by omega) hK
    have s2 : Sz K a := Sz.of_mul he hu (lt_up hub (by omega)) (lt_up hbe (by omega))
    have s3 : Sz K b := Sz.of_mul hf hv (lt_up hvb (by omega)) (lt_up hcf (by omega))
    have s4 : Sz K (a * b) := by
      have := sum_step (q := 0) (z := 0) (k := 0) (B := B) (C := C) (e := e) (f := f) (by simp) (by simp) hu hv hub hvb
      rw [Rat.zero_add] at this
      exact sz_sum he hf hbe hcf this.2 this.1 (by omega) hK
    have c1 := ne_frac a 0
    have c2 := ne_frac b 0
    rw [frac_zero] at c1 c2
    have e1 := sem_times n hKK s2 s3
    have e2 := sem_plus n hKK s1 s4
    have as' : acc + (a * b + dotQ as bs) = acc + a * b + dotQ as bs := by grind
    by_cases ha0 : a = 0
    · have z1 : acc + a * b = acc := by rw [ha0]; grind
      rw [z1] at ih
      simp -implicitDefEqProofs [zipD, forL, c1, c2, ha0, dotQ, Rat.zero_add] at ih ⊢
      exact ih
    · by_cases hb0 : b = 0
      · have z1 : acc + a * b = acc := by rw [hb0]; grind
        rw [z1] at ih
        simp -implicitDefEqProofs [zipD, forL, c1, c2, ha0, hb0, dotQ, Rat.zero_add] at ih ⊢
        exact ih
      · simp -implicitDefEqProofs [zipD, forL, c1, c2, ha0, hb0, dotQ, e1, e2, as', ih]
theorem sem_dot (n : Nat) {B C L : Nat} {as bs : List Rat} (ha : Bd B as) (hb : Bd C bs) (hl : as.length < 2 ^ L) (hK : B + C + L < 67000000) : tab.sem (n + 4) 31 [.tup (as.map frac), .tup (bs.map frac)] = .ok (frac (dotQ as bs), false, .non) := by
  rw [sem0 tab (n + 3) 31 b_31 _ rfl rfl rfl]
  obtain ⟨e, he, hbe, ha⟩ := ha
  obtain ⟨f, hf, hcf, hb⟩ := hb
  obtain ⟨x, y, h⟩ := dot_loop n he hf hbe hcf (Nat.le_refl (B + C + L)) (by omega) (some (.f, .tup (as.map frac))) (some (.f, .tup (bs.map frac))) as bs 0 0 0 none none (by omega) ha hb (by simp) (by simp)
  rw [Rat.zero_add] at h
  rw [frac_zero] at h
  simp -implicitDefEqProofs [b_31, h]
/-- its bound -/
theorem dotQ_bd {B C L : Nat} {e f : Int} : ∀ (as bs : List Rat), (∀ a ∈ as, ∃ x : Int, a * e = x ∧ x.natAbs < 2 ^ B) → (∀ b ∈ bs, ∃ x : Int, b * f = x ∧ x.natAbs < 2 ^ C) → ∃ z : Int, dotQ as bs * (e * f : Int) = z ∧ z.natAbs ≤ as.length * 2 ^ (B + C)
  | [], bs, ha, hb => ⟨0, by cases bs <;> simp [dotQ], by simp⟩
  | a :: as, [], ha, hb => ⟨0, by simp [dotQ], by simp⟩
  | a :: as, b :: bs, ha, hb => by
    obtain ⟨u, hu, hub⟩ := ha a List.mem_cons_self
    obtain ⟨v, hv, hvb⟩ := hb b List.mem_cons_self
    obtain ⟨z, hz, hzb⟩ := dotQ_bd (B := B) (C := C) (L := L) as bs (fun a h => ha a (List.mem_cons_of_mem _ h)) (fun a h => hb a (List.mem_cons_of_mem _ h))
    have st := sum_step hzb hz hu hv hub hvb
    refine ⟨_, ?_, st.2⟩
    rw [← st.1, dotQ]
    grind
end PK
end
section
set_option linter.all false
set_option maxRecDepth 100000
set_option maxHeartbeats 1000000
/-! PkQ3: makes, typed; what forms give. -/
namespace PK
structure Fo where
  as : List Int
  c : Int
  d : Int
structure Mke where
  st : Nat
  vals : List Rat
  phs : List (Fo × List (Nat × List Fo))
abbrev Mov := Nat × List Fo
abbrev Pha := Fo × List Mov
def encF (f : Fo) : D := .tup ((f.as ++ [f.c, f.d]).map D.int)
def encMv (m : Mov) : D := .tup [.int m.1, .tup (m.2.map encF)]
def encPh (p : Pha) : D := .tup [encF p.1, .tup (p.2.map encMv)]
def encMk (m : Mke) : D := .tup [.int m.st, .tup (m.vals.map frac), .tup (m.phs.map encPh)]
def encSt (s : Nat × List Rat) : D := .tup [.int s.1, .tup (s.2.map frac)]
def fo0 : Fo := ⟨[], 0, 1⟩
def ph0 : Pha := (fo0, [])
def mv0 : Mov := (0, [])
def vecF (f : Fo) : List Rat := (f.as ++ [f.c]).map fun i => Rat.divInt i f.d
def valF (f : Fo) (x : List Rat) : Rat := dotQ (vecF f) (x ++ [1])
/-- a form of so many registers, its ints of b bits at most -/
structure OkF (size b : Nat) (f : Fo) : Prop where
  len : f.as.length = size
  dpos : 1 ≤ f.d
  cop : gcdL 0 (f.as ++ [f.c, f.d]) = 1
  lt : ∀ i ∈ f.as ++ [f.c, f.d], i.natAbs < 2 ^ b
theorem OkF.mono {size b b2 : Nat} {f : Fo} (h : OkF size b f) (hb : b ≤ b2) : OkF size b2 f :=
  ⟨h.len, h.dpos, h.cop, fun i hi => lt_up (h.lt i hi) hb⟩
theorem OkF.d0 {size b : Nat} {f : Fo} (h : OkF size b f) : f.d ≠ 0 := by have := h.dpos; omega
theorem divInt_mul (i : Int) {d : Int} (h : d ≠ 0) : Rat.divInt i d * d = i := by
  rw [Rat.divInt_eq_div, Rat.div_mul_cancel (int_cast_ne h)]
theorem vecF_e {size b : Nat} {f : Fo} (h : OkF size b f) : ∀ q ∈ vecF f, ∃ x : Int, q * f.d = x ∧ x.natAbs < 2 ^ b := by
  intro q hq
  obtain ⟨i, hi, rfl⟩ := List.mem_map.mp hq
  refine ⟨i, divInt_mul i h.d0, h.lt i ?_⟩
  simp at hi ⊢
  rcases hi with hi | hi
  · exact .inl hi
  · exact .inr (.inl hi)
theorem OkF.dlt {size b : Nat} {f : Fo} (h : OkF size b f) : f.d.natAbs < 2 ^ b := h.lt f.d (by simp)
theorem vecF_bd {size b : Nat} {f : Fo} (h : OkF size b f) : Bd b (vecF f) := ⟨f.d, h.d0, h.dlt, vecF_e h⟩
theorem vecF_len {size b : Nat} {f : Fo} (h : OkF size b f) : (vecF f).length = size + 1 := by simp [vecF, h.len]
theorem cut_init {α : Type} (xs : List α) (x : α) : cut (xs ++ [x]) none (some (-1)) = xs := by
  have e : (-1 + ((xs ++ [x]).length : Int)).toNat = xs.length := by simp; omega
  simp only [cut, sIx]
  rw [if_pos (by decide), e]
  simp
theorem cut_init2 {α : Type} (xs : List α) (x y : α) : cut (xs ++ [x, y]) none (some (-1)) = xs ++ [x] := by
  have := cut_init (xs ++ [x]) y
  simpa using this
theorem atZ_last1 {α : Type} (xs : List α) (x y : α) : atZ (xs ++ [x, y]) (-1) = some y := by
  rw [atZ_last]; simp
theorem atZ_last2 {α : Type} (xs : List α) (x y : α) : atZ (xs ++ [x, y]) (-2) = some x := by
  have h : -((xs ++ [x, y]).length : Int) ≤ -2 := by simp; omega
  have e : (-2 + ((xs ++ [x, y]).length : Int)).toNat = xs.length := by simp; omega
  simp only [atZ, ixZ]
  rw [if_neg (by decide), if_pos h, e]
  simp
theorem encF_eq (f : Fo) : encF f = .tup (f.as.map D.int ++ [.int f.c, .int f.d]) := by simp [encF]
theorem add_tup (xs ys : List D) (h : xs.length + ys.length ≤ line) : binD .add (.tup xs) (.tup ys) = some (.tup (xs ++ ys), false) := by
  show (if xs.length + ys.length ≤ line then _ else _) = _
  rw [if_pos h]
theorem add_lst (xs ys : List D) (h : xs.length + ys.length ≤ line) : binD .add (.lst xs) (.lst ys) = some (.lst (xs ++ ys), true) := by
  show (if xs.length + ys.length ≤ line then _ else _) = _
  rw [if_pos h]
theorem add_str (xs ys : List Nat) (h : xs.length + ys.length ≤ line) : binD .add (.str xs) (.str ys) = some (.str (xs ++ ys), false) := by
  show (if xs.length + ys.length ≤ line then _ else _) = _
  rw [if_pos h]
theorem sem_vector_of (n size b : Nat) (hs : size ≤ 1000) {f : Fo} (h : OkF size b f) : tab.sem (n + 3) 34 [encF f] = .ok (.tup ((vecF f).map frac), false, .non) := by
  rw [sem0 tab (n + 2) 34 b_34 _ rfl rfl rfl, encF_eq]
  have hc := comp_val (n := n + 2) (v := 1) (g := fun x => match x with | .int i => frac (Rat.divInt i f.d) | x => x) (xs := f.as.map D.int ++ [.int f.c]) (env := [some (.f, .tup (f.as.map D.int ++ [.int f.c, .int f.d])), none]) (elt := E34_1)
    (fun x hx => ⟨false, by
      obtain ⟨i, rfl⟩ : ∃ i, x = .int i := by
        simp at hx
        rcases hx with ⟨i, _, rfl⟩ | rfl <;> exact ⟨_, rfl⟩
      have e := sem_lowest n i f.d h.d0
      simp -implicitDefEqProofs [atZ_last1, e]⟩) (fun s => by simp)
  have l1 : (f.as.map D.int ++ [D.int f.c]).length ≤ line := by simp [h.len, line]; omega
  have e2 : (f.as.map D.int ++ [D.int f.c]).map (fun x => match x with | .int i => frac (Rat.divInt i f.d) | x => x) = (vecF f).map frac := by
    simp [vecF, List.map_map, Function.comp_def]
  rw [e2] at hc
  have l2 : (vecF f).length ≤ line := by simp [vecF_len h, line]; omega
  simp -implicitDefEqProofs [b_34, slD, cut_init2, optI, isNo, hc, l2]
theorem sem_number_by (n size b B : Nat) (hs : size ≤ 1000) (hb : b + B < 66000000) {f : Fo} {x : List Rat} (h : OkF size b f) (hx : Bd B x) (hl : x.length ≤ 1000) : tab.sem (n + 5) 35 [encF f, .tup (x.map frac)] = .ok (frac (valF f x), false, .non) := by
  rw [sem0 tab (n + 4) 35 b_35 _ rfl rfl rfl]
  have e1 := sem_vector_of (n + 1) size b hs h
  have e2 := sem_dot n (vecF_bd h) hx.one (L := 20) (by rw [vecF_len h]; omega) (by omega)
  have e3 : (x ++ [1]).map frac = x.map frac ++ [D.tup [.int 1, .int 1]] := by simp [frac_one]
  rw [e3] at e2
  have l1 := add_tup (x.map frac) [D.tup [D.int 1, D.int 1]] (by simp [line]; omega)
  simp -implicitDefEqProofs [b_35, e1, e2, l1, valF, line]
/-- what a form gives, with its numbers -/
def dotI : List Int → List Rat → Rat
  | a :: as, b :: bs => a * b + dotI as bs
  | _, _ => 0
theorem valF_eq {size b : Nat} {f : Fo} (h : OkF size b f) (x : List Rat) (hx : x.length = size) : valF f x = (f.c + dotI f.as x) * Rat.divInt 1 f.d := by
  have g : ∀ (as : List Int) (x : List Rat), x.length = as.length → dotQ ((as ++ [f.c]).map fun i => Rat.divInt i f.d) (x ++ [1]) = (f.c + dotI as x) * Rat.divInt 1 f.d := by
    have e : ∀ i : Int, Rat.divInt i f.d = i * Rat.divInt 1 f.d := by
      intro i
      rw [Rat.divInt_eq_div, Rat.divInt_eq_div, Rat.div_def, Rat.div_def, Rat.intCast_one, Rat.one_mul]
    intro as
    induction as with
    | nil =>
      intro x hx
      cases x with
      | nil => simp only [List.nil_append, List.map_cons, List.map_nil, dotQ, dotI]; rw [e f.c]; grind
      | cons y r => simp at hx
    | cons a as ih =>
      intro x hx
      cases x with
      | nil => simp at hx
      | cons y r =>
        have := ih r (by simpa using hx)
        simp only [List.cons_append, List.map_cons, dotQ, dotI] at this ⊢
        rw [this, e a]
        grind
  exact g f.as x (by rw [hx, h.len])
theorem frac_inv {d : Int} (h : 1 ≤ d) : frac (Rat.divInt 1 d) = .tup [.int 1, .int d] := by
  have := low_frac (a := 1) (b := d) (by omega)
  rw [← this]
  simp
theorem given_loop (n : Nat) {B C L K : Nat} {f : Int} (hf : f ≠ 0) (hcf : f.natAbs < 2 ^ C) (hB : 1 ≤ B) (hK : B + C + L ≤ K) (hKK : K + K < 134000000) (p q : Slot) : ∀ (as : List Int) (bs : List Rat) (r : List D) (k : Nat) (acc : Rat) (z : Int) (x y : Slot), bs.length = as.length → as.length + k < 2 ^ L →
    (∀ a ∈ as, a.natAbs < 2 ^ B) → (∀ b ∈ bs, ∃ x : Int, b * f = x ∧ x.natAbs < 2 ^ C) → z.natAbs ≤ k * 2 ^ (B + C) → acc * (1 * f : Int) = z →
    ∃ x' y', forL (tF (.tp [(.nm 3), (.nm 4)])) (bF (tab.gl (n + 2)) L47_1) (zipD (as.map D.int ++ r) (bs.map frac)) [p, q, some (.f, frac acc), x, y] = .ok (.nx [p, q, some (.f, frac (acc + dotI as bs)), x', y'])
  | [], bs, r, k, acc, z, x, y, hlen, hl, ha, hb, hz, hacc => ⟨x, y, by cases bs <;> first | (simp at hlen; done) | (cases r <;> simp [zipD, forL, dotI, Rat.add_zero])⟩
  | a :: as, [], r, k, acc, z, x, y, hlen, hl, ha, hb, hz, hacc => by simp at hlen
  | a :: as, b :: bs, r, k, acc, z, x, y, hlen, hl, ha, hb, hz, hacc => by
    have hub := ha a List.mem_cons_self
    have hu : (a : Rat) * ((1 : Int) : Rat) = a := by rw [Rat.intCast_one, Rat.mul_one]
    obtain ⟨v, hv, hvb⟩ := hb b List.mem_cons_self
    have h1 : (1 : Int).natAbs < 2 ^ B := by
      have := pow_le_pow2 hB
      simp at this ⊢
      omega
    have st := sum_step (e := 1) hz hacc hu hv hub hvb
    simp only [List.length_cons] at hl hlen
    obtain ⟨x', y', ih⟩ := given_loop n hf hcf hB hK hKK p q as bs r (k + 1) (acc + a * b) (z + a * v) (some (.f, .int a)) (some (.f, frac b)) (by omega) (by omega) (fun a h => ha a (List.mem_cons_of_mem _ h)) (fun a h => hb a (List.mem_cons_of_mem _ h)) st.2 st.1
    refine ⟨x', y', ?_⟩
    have s1 : Sz K acc := sz_sum (e := 1) (by decide) hf h1 hcf hz hacc (by omega) hK
    have s2 : Sz K (a : Rat) := Sz.of_mul (e := 1) (by decide) hu (lt_up hub (by omega)) (lt_up h1 (by omega))
    have s3 : Sz K b := Sz.of_mul hf hv (lt_up hvb (by omega)) (lt_up hcf (by omega))
    have s4 : Sz K (a * b) := by
      have := sum_step (q := 0) (z := 0) (k := 0) (B := B) (C := C) (e := 1) (f := f) (by simp) (by simp) hu hv hub hvb
      rw [Rat.zero_add] at this
      exact sz_sum (e := 1) (by decide) hf h1 hcf this.2 this.1 (by omega) hK
    have e1 := sem_law_times n hKK s2 s3
    have e2 := sem_law_sum n hKK s1 s4
    rw [frac_int] at e1
    have as' : acc + (a * b + dotI as bs) = acc + a * b + dotI as bs := by grind
    simp -implicitDefEqProofs [zipD, forL, dotI, e1, e2, as', ih, line]
theorem sem_law_given (n size b B : Nat) (hs : size ≤ 1000) (hb1 : 1 ≤ b) (hb : b + B < 66000000) {f : Fo} {x : List Rat} (h : OkF size b f) (hx : Bd B x) (hl : x.length = size) : tab.sem (n + 3) 47 [encF f, .tup (x.map frac)] = .ok (frac (valF f x), false, .non) := by
  rw [sem0 tab (n + 2) 47 b_47 _ rfl rfl rfl, encF_eq]
  obtain ⟨e, he, hbe, hx⟩ := hx
  have hc : f.c.natAbs < 2 ^ b := h.lt f.c (by simp)
  obtain ⟨x1, y1, hlp⟩ := given_loop n he hbe hb1 (Nat.le_refl (b + B + 20)) (by omega) (some (.f, .tup (f.as.map D.int ++ [.int f.c, .int f.d]))) (some (.f, .tup (x.map frac))) f.as x [.int f.c, .int f.d] 1 f.c (f.c * e) none none (by rw [hl, h.len]) (by rw [h.len]; omega)
    (fun a ha => h.lt a (by simp [ha])) hx (by have := natAbs_mul_lt hc hbe; omega) (by rw [cast_mul, cast_mul, Rat.intCast_one, Rat.one_mul])
  rw [frac_int] at hlp
  have hsum : Sz (b + B + 20) (f.c + dotI f.as x) ∧ Sz (b + B + 20) (Rat.divInt 1 f.d) := by
    constructor
    · have g : ∀ (as : List Int) (bs : List Rat), (∀ a ∈ as, a.natAbs < 2 ^ b) → (∀ q ∈ bs, ∃ x : Int, q * e = x ∧ x.natAbs < 2 ^ B) → ∃ z : Int, dotI as bs * (1 * e : Int) = z ∧ z.natAbs ≤ as.length * 2 ^ (b + B) := by
        intro as
        induction as with
        | nil => intro bs _ _; exact ⟨0, by cases bs <;> simp [dotI], by simp⟩
        | cons a as ih =>
          intro bs ha hbs
          cases bs with
          | nil => exact ⟨0, by simp [dotI], by simp⟩
          | cons q bs =>
            obtain ⟨v, hv, hvb⟩ := hbs q List.mem_cons_self
            obtain ⟨z, hz, hzb⟩ := ih bs (fun a h => ha a (List.mem_cons_of_mem _ h)) (fun a h => hbs a (List.mem_cons_of_mem _ h))
            have st := sum_step (e := 1) (f := e) (B := b) (C := B) hzb hz (by rw [Rat.intCast_one, Rat.mul_one] : (a : Rat) * ((1 : Int) : Rat) = a) hv (ha a List.mem_cons_self) hvb
            refine ⟨_, ?_, st.2⟩
            rw [← st.1, dotI]
            grind
      obtain ⟨z, hz, hzb⟩ := g f.as x (fun a ha => h.lt a (by simp [ha])) hx
      have h1 : (1 : Int).natAbs < 2 ^ b := by
        have := pow_le_pow2 hb1
        simp at this ⊢
        omega
      refine sz_sum (e := 1) (f := e) (B := b) (C := B) (L := 20) (z := z + f.c * e) (k := size + 1) (by decide) he h1 hbe ?_ ?_ (by omega) (Nat.le_refl _)
      · have a1 := Int.natAbs_add_le z (f.c * e)
        have a2 := natAbs_mul_lt hc hbe
        rw [h.len] at hzb
        rw [Nat.add_mul]
        omega
      · rw [cast_add, ← hz, cast_mul, cast_mul, Rat.intCast_one]
        grind
    · exact Sz.of_mul h.d0 (divInt_mul 1 h.d0) (lt_up (A := b) (by have := pow_le_pow2 hb1; simp at this ⊢; omega) (by omega)) (lt_up h.dlt (by omega))
  have e1 := sem_law_times n (by omega) hsum.1 hsum.2
  rw [frac_inv h.dpos, ← valF_eq h x hl] at e1
  simp -implicitDefEqProofs [b_47, atZ_last1, atZ_last2, hlp, e1, line]
end PK
end
section
set_option linter.all false
set_option maxRecDepth 100000
set_option maxHeartbeats 1000000
/-! PkQ4: pressing keys: the program's way and the laws' way give the same states and numbers. -/
namespace PK
def phOf (m : Mke) (i : Nat) : Pha := m.phs.getD i ph0
def mvOf (m : Mke) (i c : Nat) : Mov := (phOf m i).2.getD (c - 97) mv0
abbrev Sta := Nat × List Rat
def pressF (m : Mke) (s : Sta) (c : Nat) : Sta := ((mvOf m s.1 c).1, (mvOf m s.1 c).2.map fun f => valF f s.2)
def shownF (m : Mke) (s : Sta) : Rat := valF (phOf m s.1).1 s.2
def behindF (m : Mke) (s : Sta) (row : List Nat) : Sta := row.foldl (pressF m) s
/-- what is shown behind each key -/
def tailF (m : Mke) : Sta → List Nat → List Rat
  | _, [] => []
  | s, c :: r => shownF m (pressF m s c) :: tailF m (pressF m s c) r
def allF (m : Mke) (s : Sta) (row : List Nat) : List Rat := shownF m s :: tailF m s row
/-- a make, with the numbers of its registers, phases, keys, the bits of its forms and of its values -/
structure WF (m : Mke) (size phases count b B : Nat) : Prop where
  st : m.st < phases
  vlen : m.vals.length = size
  vbd : Bd B m.vals
  plen : m.phs.length = phases
  shn : ∀ p ∈ m.phs, OkF size b p.1
  mvs : ∀ p ∈ m.phs, p.2.length = count
  nxt : ∀ p ∈ m.phs, ∀ v ∈ p.2, v.1 < phases ∧ v.2.length = size ∧ ∀ f ∈ v.2, OkF size b f
  sz : size ≤ 4
  p1 : 1 ≤ phases
  p5 : phases ≤ 5
  c1 : 1 ≤ count
  c5 : count ≤ 5
  b1 : 1 ≤ b
/-- the bottoms' bits -/
def Dn (m : Mke) (d : Nat) : Prop := ∀ p ∈ m.phs, p.1.d.natAbs < 2 ^ d ∧ ∀ v ∈ p.2, ∀ f ∈ v.2, f.d.natAbs < 2 ^ d
def GoodK (count c : Nat) : Prop := 97 ≤ c ∧ c < 97 + count
def GoodRow (count : Nat) (row : List Nat) : Prop := ∀ c ∈ row, GoodK count c
structure StOk (size phases B : Nat) (s : Sta) : Prop where
  ph : s.1 < phases
  len : s.2.length = size
  bd : Bd B s.2
section
variable {m : Mke} {size phases count b B : Nat}
theorem WF.at_ (h : WF m size phases count b B) {i : Nat} (hi : i < phases) : m.phs[i]? = some (phOf m i) ∧ phOf m i ∈ m.phs := by
  have hl : i < m.phs.length := by rw [h.plen]; exact hi
  have e : m.phs[i]? = some (phOf m i) := by simp [phOf, hl]
  exact ⟨e, List.mem_of_getElem? e⟩
theorem WF.mv (h : WF m size phases count b B) {i c : Nat} (hi : i < phases) (hc : GoodK count c) : (phOf m i).2[c - 97]? = some (mvOf m i c) ∧ mvOf m i c ∈ (phOf m i).2 := by
  have hl : c - 97 < (phOf m i).2.length := by
    rw [h.mvs _ (h.at_ hi).2]
    have := hc.1
    have := hc.2
    omega
  have e : (phOf m i).2[c - 97]? = some (mvOf m i c) := by simp [mvOf, hl]
  exact ⟨e, List.mem_of_getElem? e⟩
theorem WF.first (h : WF m size phases count b B) : StOk size phases B (m.st, m.vals) := ⟨h.st, h.vlen, h.vbd⟩
/-- the product of the bottoms -/
def prodD : List Fo → Int
  | [] => 1
  | f :: r => f.d * prodD r
theorem prodD_ne : ∀ {fs : List Fo}, (∀ f ∈ fs, f.d ≠ 0) → prodD fs ≠ 0
  | [], _ => by simp [prodD]
  | f :: r, h => Int.mul_ne_zero (h f List.mem_cons_self) (prodD_ne fun g hg => h g (List.mem_cons_of_mem _ hg))
theorem prodD_le {b : Nat} : ∀ {fs : List Fo}, (∀ f ∈ fs, f.d.natAbs < 2 ^ b) → (prodD fs).natAbs ≤ 2 ^ (b * fs.length)
  | [], _ => by simp [prodD]
  | f :: r, h => by
    have h1 := h f List.mem_cons_self
    have h2 := prodD_le fun g hg => h g (List.mem_cons_of_mem _ hg)
    rw [prodD, Int.natAbs_mul, List.length_cons, Nat.mul_add, Nat.mul_one, Nat.add_comm, Nat.pow_add]
    exact Nat.mul_le_mul (by omega) h2
theorem prodD_mem {b : Nat} : ∀ {fs : List Fo} {f : Fo}, (∀ f ∈ fs, f.d.natAbs < 2 ^ b) → f ∈ fs → ∃ c : Int, prodD fs = f.d * c ∧ c.natAbs ≤ 2 ^ (b * fs.length)
  | [], f, _, h => by cases h
  | g :: r, f, h, hf => by
    rcases List.mem_cons.mp hf with rfl | hf
    · refine ⟨prodD r, rfl, Nat.le_trans (prodD_le fun g hg => h g (List.mem_cons_of_mem _ hg)) (pow_le_pow2 ?_)⟩
      exact Nat.mul_le_mul_left _ (by simp)
    · obtain ⟨c, h1, h2⟩ := prodD_mem (fun g hg => h g (List.mem_cons_of_mem _ hg)) hf
      refine ⟨g.d * c, by rw [prodD, h1]; grind, ?_⟩
      have h3 := h g List.mem_cons_self
      rw [Int.natAbs_mul, List.length_cons, Nat.mul_add, Nat.mul_one, Nat.add_comm, Nat.pow_add]
      exact Nat.mul_le_mul (by omega) h2
theorem valF_bd {f : Fo} {x : List Rat} {e : Int} (h : OkF size b f) (hx : ∀ q ∈ x, ∃ y : Int, q * e = y ∧ y.natAbs < 2 ^ B) (hb : e.natAbs < 2 ^ B) : ∃ z : Int, valF f x * (f.d * e : Int) = z ∧ z.natAbs ≤ (size + 1) * 2 ^ (b + B) := by
  obtain ⟨z, hz, hl⟩ := dotQ_bd (L := 0) (f := e) (C := B) (vecF f) (x ++ [1]) (vecF_e h) (fun q hq => by
    rcases List.mem_append.mp hq with hq | hq
    · exact hx q hq
    · rw [List.mem_singleton.mp hq]
      exact ⟨e, by grind, hb⟩)
  rw [vecF_len h] at hl
  exact ⟨z, hz, hl⟩
theorem press_bd {fs : List Fo} {x : List Rat} (hs : size ≤ 4) (hl : fs.length ≤ 4) (h : ∀ f ∈ fs, OkF size b f) (hx : Bd B x) : Bd (B + (5 * b + 3)) (fs.map fun f => valF f x) := by
  obtain ⟨e, he, hbe, hx⟩ := hx
  have hd : ∀ f ∈ fs, f.d.natAbs < 2 ^ b := fun f hf => (h f hf).dlt
  have p4 : 2 ^ (b * fs.length) ≤ 2 ^ (4 * b) := pow_le_pow2 (by rw [Nat.mul_comm]; exact Nat.mul_le_mul_right _ hl)
  refine ⟨prodD fs * e, Int.mul_ne_zero (prodD_ne fun f hf => (h f hf).d0) he, ?_, fun q hq => ?_⟩
  · have h1 := prodD_le hd
    rw [Int.natAbs_mul]
    refine lt_up (A := 4 * b + B) ?_ (by omega)
    rw [Nat.pow_add]
    exact Nat.mul_lt_mul_of_le_of_lt (by omega) hbe (Nat.pow_pos (by omega))
  · obtain ⟨f, hf, rfl⟩ := List.mem_map.mp hq
    obtain ⟨z, hz, hzb⟩ := valF_bd (h f hf) hx hbe
    obtain ⟨c, hc, hcb⟩ := prodD_mem hd hf
    refine ⟨z * c, ?_, ?_⟩
    · rw [cast_mul, cast_mul, ← hz, hc, cast_mul, cast_mul]
      grind
    · rw [Int.natAbs_mul]
      have h5 : (size + 1) * 2 ^ (b + B) < 2 ^ 3 * 2 ^ (b + B) := Nat.mul_lt_mul_of_pos_right (by omega) (Nat.pow_pos (by omega))
      rw [← Nat.pow_add] at h5
      have h6 : z.natAbs * c.natAbs < 2 ^ (3 + (b + B)) * 2 ^ (4 * b) := Nat.mul_lt_mul_of_lt_of_le (by omega) (by omega) (Nat.pow_pos (by omega))
      rw [← Nat.pow_add] at h6
      exact lt_up h6 (by omega)
theorem press_ok (h : WF m size phases count b B) {C : Nat} {s : Sta} (hs : StOk size phases C s) {c : Nat} (hc : GoodK count c) : StOk size phases (C + (5 * b + 3)) (pressF m s c) := by
  have h1 := h.nxt _ (h.at_ hs.ph).2 _ (h.mv hs.ph hc).2
  refine ⟨h1.1, by simp [pressF, h1.2.1], ?_⟩
  exact press_bd h.sz (by rw [h1.2.1]; exact h.sz) h1.2.2 hs.bd
theorem StOk.mono {C D : Nat} {s : Sta} (h : StOk size phases C s) (hl : C ≤ D) : StOk size phases D s := ⟨h.ph, h.len, h.bd.mono hl⟩
theorem behind_ok (h : WF m size phases count b B) : ∀ {row : List Nat} {C : Nat} {s : Sta}, StOk size phases C s → GoodRow count row → StOk size phases (C + row.length * (5 * b + 3)) (behindF m s row)
  | [], C, s, hs, _ => by simpa [behindF] using hs
  | c :: r, C, s, hs, hr => by
    have := behind_ok h (press_ok h hs (hr c List.mem_cons_self)) (fun d hd => hr d (List.mem_cons_of_mem _ hd))
    rw [List.length_cons, Nat.add_mul, Nat.one_mul]
    rw [show C + (r.length * (5 * b + 3) + (5 * b + 3)) = C + (5 * b + 3) + r.length * (5 * b + 3) by omega]
    exact this
/-! ### places -/
@[simp] theorem ix_mk0 : ixD (encMk m) (.int 0) = some (.int m.st) := rfl
@[simp] theorem ix_mk1 : ixD (encMk m) (.int 1) = some (.tup (m.vals.map frac)) := rfl
@[simp] theorem ix_mk2 : ixD (encMk m) (.int 2) = some (.tup (m.phs.map encPh)) := rfl
@[simp] theorem ix_ph0 (p : Pha) : ixD (encPh p) (.int 0) = some (encF p.1) := rfl
@[simp] theorem ix_ph1 (p : Pha) : ixD (encPh p) (.int 1) = some (.tup (p.2.map encMv)) := rfl
@[simp] theorem ix_mv0 (p : Mov) : ixD (encMv p) (.int 0) = some (.int p.1) := rfl
@[simp] theorem ix_mv1 (p : Mov) : ixD (encMv p) (.int 1) = some (.tup (p.2.map encF)) := rfl
@[simp] theorem ix_st0 (p : Sta) : ixD (encSt p) (.int 0) = some (.int p.1) := rfl
@[simp] theorem ix_st1 (p : Sta) : ixD (encSt p) (.int 1) = some (.tup (p.2.map frac)) := rfl
theorem ph_at (h : WF m size phases count b B) {i : Nat} (hi : i < phases) : atZ (m.phs.map encPh) (i : Int) = some (encPh (phOf m i)) := by
  rw [atZ_nat, List.getElem?_map, (h.at_ hi).1]
  rfl
theorem mv_at (h : WF m size phases count b B) {i c : Nat} (hi : i < phases) (hc : GoodK count c) : atZ ((phOf m i).2.map encMv) ((c - 97 : Nat) : Int) = some (encMv (mvOf m i c)) := by
  rw [atZ_nat, List.getElem?_map, (h.mv hi hc).1]
  rfl
theorem idx_let {c : Nat} (h1 : 97 ≤ c) (h2 : c < 102) : idxD c [97, 98, 99, 100, 101] 0 = some (c - 97) := by
  rcases (by omega : c = 97 ∨ c = 98 ∨ c = 99 ∨ c = 100 ∨ c = 101) with rfl | rfl | rfl | rfl | rfl <;> rfl
theorem mt_index {c : Nat} (h1 : 97 ≤ c) (h2 : c < 102) : mtD .index (.str [97, 98, 99, 100, 101]) [.str [c]] = some (.int ((c - 97 : Nat) : Int), false) := by
  show (idxD c [97, 98, 99, 100, 101] 0).map _ = _
  rw [idx_let h1 h2]
  rfl
theorem sem_move_of (n : Nat) (h : WF m size phases count b B) {i c : Nat} (hi : i < phases) (hc : GoodK count c) : tab.sem (n + 1) 36 [encMk m, .int i, .str [c]] = .ok (encMv (mvOf m i c), false, .non) := by
  rw [sem0 tab n 36 b_36 _ rfl rfl rfl]
  have h5 := h.c5
  have e1 := mt_index hc.1 (by have := hc.2; omega)
  have e2 := ph_at h hi
  have e3 := mv_at h hi hc
  simp -implicitDefEqProofs [b_36, e1, e2, e3, knd]
theorem comp_map {α : Type} {n v : Nat} {e g : α → D} {xs : List α} {env : Env} {elt : X} (h : ∀ x ∈ xs, ∃ fr, evX (tab.gl n) elt (put env v (some (.f, e x))) = .ok ((g x, fr), put env v (some (.f, e x)))) (hp : ∀ s, put (put env v s) v none = env) :
    compL [v] (tF (.nm v)) (iF (tab.gl n) []) (xF (tab.gl n) elt) (xs.map e) env = .ok (xs.map g, env) :=
  compL_map fun x hx => by
    obtain ⟨fr, k⟩ := h x hx
    exact ⟨put env v (some (.f, e x)), put env v (some (.f, e x)), fr, put env v (some (.f, e x)), rfl, rfl, k, by simp only [wipeE_cons, wipeE_nil]; exact hp _⟩
theorem sem_pressed (n : Nat) (h : WF m size phases count b B) {C : Nat} (hC : b + C < 66000000) {s : Sta} (hs : StOk size phases C s) {c : Nat} (hc : GoodK count c) : tab.sem (n + 6) 37 [encMk m, encSt s, .str [c]] = .ok (encSt (pressF m s c), false, .non) := by
  rw [sem0 tab (n + 5) 37 b_37 _ rfl rfl rfl]
  have e1 := sem_move_of (n + 4) h hs.ph hc
  have h1 := h.nxt _ (h.at_ hs.ph).2 _ (h.mv hs.ph hc).2
  have hz := h.sz
  have hl := hs.len
  have hc := comp_map (n := n + 5) (v := 4) (e := encF) (g := fun f => frac (valF f s.2)) (xs := (mvOf m s.1 c).2) (elt := E37_1) (env := [some (.f, encMk m), some (.f, encSt s), some (.f, .str [c]), some (.f, encMv (mvOf m s.1 c)), none])
    (fun f hf => ⟨false, by
      have e := sem_number_by n size b C (by omega) hC (h1.2.2 f hf) hs.bd (by omega)
      simp -implicitDefEqProofs [e]⟩) (fun s => by simp)
  have l1 : (mvOf m s.1 c).2.length ≤ line := by rw [h1.2.1]; simp [line]; omega
  have e3 : encSt (pressF m s c) = .tup [.int (mvOf m s.1 c).1, .tup ((mvOf m s.1 c).2.map fun f => frac (valF f s.2))] := by
    simp [encSt, pressF, List.map_map, Function.comp_def]
  have l2 : 2 ≤ line := by decide
  rw [e3]
  simp -implicitDefEqProofs [b_37, e1, hc, l1, l2]
theorem sem_first_state (n : Nat) : tab.sem (n + 1) 38 [encMk m] = .ok (encSt (m.st, m.vals), false, .non) := by
  rw [sem0 tab n 38 b_38 _ rfl rfl rfl]
  have l2 : 2 ≤ line := by decide
  simp -implicitDefEqProofs [b_38, l2, encSt]
theorem behind_loop (n : Nat) (h : WF m size phases count b B) (p q r : Slot) {N : Nat} (hN : b + N < 66000000) : ∀ (row : List Nat) {C : Nat} {s : Sta} (x : Slot), C + row.length * (5 * b + 3) ≤ N → StOk size phases C s → GoodRow count row →
    ∃ x', forL (tF (.nm 4)) (bF (tab.gl (n + 6)) L39_1) (row.map fun c => .str [c]) [some (.f, encMk m), q, r, some (.f, encSt s), x] = .ok (.nx [some (.f, encMk m), q, r, some (.f, encSt (behindF m s row)), x'])
  | [], C, s, x, hl, hs, hr => ⟨x, rfl⟩
  | c :: row, C, s, x, hl, hs, hr => by
    have hc := hr c List.mem_cons_self
    rw [List.length_cons, Nat.add_mul, Nat.one_mul] at hl
    have e := sem_pressed n h (by omega) hs hc
    obtain ⟨x', ih⟩ := behind_loop n h p q r hN row (some (.f, .str [c])) (by omega) (press_ok h hs hc) (fun d hd => hr d (List.mem_cons_of_mem _ hd))
    exact ⟨x', by simp -implicitDefEqProofs [forL, e, ih, behindF]⟩
theorem sem_state_behind (n : Nat) (h : WF m size phases count b B) {C : Nat} {row : List Nat} (hN : b + (C + row.length * (5 * b + 3)) < 66000000) {s : Sta} (hs : StOk size phases C s) (hr : GoodRow count row) : tab.sem (n + 7) 39 [encMk m, encSt s, .str row] = .ok (encSt (behindF m s row), false, .non) := by
  rw [sem0 tab (n + 6) 39 b_39 _ rfl rfl rfl]
  obtain ⟨x', e⟩ := behind_loop n h none (some (.f, encSt s)) (some (.f, .str row)) hN row none (Nat.le_refl _) hs hr
  simp -implicitDefEqProofs [b_39, e]
theorem sem_shown_in (n : Nat) (h : WF m size phases count b B) {C : Nat} (hC : b + C < 66000000) {s : Sta} (hs : StOk size phases C s) : tab.sem (n + 6) 40 [encMk m, encSt s] = .ok (frac (shownF m s), false, .non) := by
  rw [sem0 tab (n + 5) 40 b_40 _ rfl rfl rfl]
  have e1 := ph_at h hs.ph
  have hz := h.sz
  have hl := hs.len
  have e2 := sem_number_by n size b C (by omega) hC (h.shn _ (h.at_ hs.ph).2) hs.bd (by omega)
  simp -implicitDefEqProofs [b_40, e1, e2, shownF]
theorem app_lst (xs : List D) (y : D) (h : xs.length < line) : appD (.lst xs) y = some (.lst (xs ++ [y])) := by
  show (if xs.length < line then _ else _) = _
  rw [if_pos h]
theorem all_loop (n : Nat) (h : WF m size phases count b B) (q : Slot) {N : Nat} (hN : b + N < 66000000) : ∀ (row : List Nat) {C : Nat} {s : Sta} (acc : List Rat) (x : Slot), acc.length + row.length ≤ 1000 → C + row.length * (5 * b + 3) ≤ N → StOk size phases C s → GoodRow count row →
    ∃ x', forL (tF (.nm 4)) (bF (tab.gl (n + 6)) L41_1) (row.map fun c => .str [c]) [some (.f, encMk m), q, some (.f, encSt s), some (.o, .lst (acc.map frac)), x] = .ok (.nx [some (.f, encMk m), q, some (.f, encSt (behindF m s row)), some (.o, .lst ((acc ++ tailF m s row).map frac)), x'])
  | [], C, s, acc, x, hl0, hl, hs, hr => ⟨x, by simp [forL, behindF, tailF]⟩
  | c :: row, C, s, acc, x, hl0, hl, hs, hr => by
    have hc := hr c List.mem_cons_self
    rw [List.length_cons, Nat.add_mul, Nat.one_mul] at hl
    simp only [List.length_cons] at hl0
    have e := sem_pressed n h (by omega) hs hc
    have hs' := press_ok h hs hc
    have e2 := sem_shown_in n h (by omega) hs'
    obtain ⟨x', ih⟩ := all_loop n h q hN row (acc ++ [shownF m (pressF m s c)]) (some (.f, .str [c])) (by simp; omega) (by omega) hs' (fun d hd => hr d (List.mem_cons_of_mem _ hd))
    have a := app_lst (acc.map frac) (frac (shownF m (pressF m s c))) (by simp [line]; omega)
    refine ⟨x', ?_⟩
    simp only [List.map_append, List.map_cons, List.map_nil, List.append_assoc, List.cons_append, List.nil_append] at ih ⊢
    simp -implicitDefEqProofs [forL, e, e2, a, ih, behindF, tailF, knd]
theorem sem_all_behind (n : Nat) (h : WF m size phases count b B) {row : List Nat} (hN : b + (B + row.length * (5 * b + 3)) < 66000000) (hr : GoodRow count row) (hl : row.length ≤ 900) : tab.sem (n + 7) 41 [encMk m, .str row] = .ok (.lst ((allF m (m.st, m.vals) row).map frac), true, .non) := by
  rw [sem0 tab (n + 6) 41 b_41 _ rfl rfl rfl]
  have e1 := sem_first_state (m := m) (n + 5)
  have e2 := sem_shown_in n h (by omega) h.first
  obtain ⟨x', e⟩ := all_loop n h (some (.f, .str row)) hN row [shownF m (m.st, m.vals)] none (by simp; omega) (Nat.le_refl _) h.first hr
  simp only [List.map_cons, List.map_nil, List.cons_append, List.nil_append] at e
  have l1 : 1 ≤ line := by decide
  simp -implicitDefEqProofs [b_41, e1, e2, e, l1, allF]
/-! ### checks -/
theorem sem_count_keys (n : Nat) (h : WF m size phases count b B) : tab.sem (n + 1) 10 [encMk m] = .ok (.int count, false, .non) := by
  rw [sem0 tab n 10 b_10 _ rfl rfl rfl]
  have e := ph_at h (i := 0) h.p1
  have e2 := h.mvs _ (h.at_ (i := 0) h.p1).2
  rw [Int.natCast_zero] at e
  simp -implicitDefEqProofs [b_10, e, e2]
/-- the keys' codes -/
def lets (count : Nat) : List Nat := [97, 98, 99, 100, 101].take count
theorem cut_lets {count : Nat} (h : count ≤ 5) : cut [97, 98, 99, 100, 101] none (some (count : Int)) = lets count := by
  rcases (by omega : count = 0 ∨ count = 1 ∨ count = 2 ∨ count = 3 ∨ count = 4 ∨ count = 5) with rfl | rfl | rfl | rfl | rfl | rfl <;> rfl
theorem sem_letters (n : Nat) (h : WF m size phases count b B) : tab.sem (n + 2) 11 [encMk m] = .ok (.str (lets count), false, .non) := by
  rw [sem0 tab (n + 1) 11 b_11 _ rfl rfl rfl]
  have e := sem_count_keys n h
  have e2 := cut_lets h.c5
  have l2 : 5 ≤ line := by decide
  simp -implicitDefEqProofs [b_11, e, e2, slD, optI, isNo, l2]
theorem mem_lets {count c : Nat} (h : count ≤ 5) : c ∈ lets count ↔ GoodK count c := by
  rcases (by omega : count = 0 ∨ count = 1 ∨ count = 2 ∨ count = 3 ∨ count = 4 ∨ count = 5) with rfl | rfl | rfl | rfl | rfl | rfl <;> simp [lets, GoodK] <;> omega
end
end PK
end
section
set_option linter.all false
set_option maxRecDepth 100000
set_option maxHeartbeats 1000000
/-! PkQ5: what is asked of makes and rows; the laws' own presses. -/
namespace PK
section
variable {m : Mke} {size phases count b B : Nat}
theorem all_true {xs : List D} (h : ∀ x ∈ xs, x = .bl true) : biD .all [.lst xs] = some (.bl true, false) := by
  have e : ∀ {xs : List D}, (∀ x ∈ xs, x = .bl true) → boolsD xs = some (List.replicate xs.length true) := by
    intro xs
    induction xs with
    | nil => intro _; rfl
    | cons x r ih =>
      intro h
      rw [h x List.mem_cons_self, boolsD, ih fun y hy => h y (List.mem_cons_of_mem _ hy)]
      rfl
  show (boolsD xs).map _ = _
  rw [e h]
  simp
theorem in_str {c : Nat} {t : List Nat} (h : c ∈ t) : cmpD .in_ (.str [c]) (.str t) = some true := by
  simp [cmpD, inD, h]
theorem sem_is_row (n : Nat) (h : WF m size phases count b B) {row : List Nat} (hr : GoodRow count row) (hl : row.length ≤ 40) : tab.sem (n + 3) 32 [encMk m, .str row, .int 40] = .ok (.bl true, false, .non) := by
  rw [sem0 tab (n + 2) 32 b_32 _ rfl rfl rfl]
  have e1 := sem_letters n h
  have hc := comp_map (n := n + 2) (v := 3) (e := fun c : Nat => D.str [c]) (g := fun c : Nat => D.bl true) (xs := row) (elt := E32_1) (env := [some (.f, encMk m), some (.f, .str row), some (.f, .int 40), none])
    (fun c hc => ⟨false, by
      have e := in_str ((mem_lets h.c5).mpr (hr c hc))
      simp -implicitDefEqProofs [e1, e]⟩) (fun s => by simp)
  have l1 : row.length ≤ line := by simp [line]; omega
  have l2 : ¬ (40 : Int) < row.length := by omega
  have a := all_true (xs := row.map fun _ => D.bl true) (by intro x hx; obtain ⟨_, _, rfl⟩ := List.mem_map.mp hx; rfl)
  simp -implicitDefEqProofs [b_32, hc, l1, l2, a]
theorem sem_need_row (n : Nat) (h : WF m size phases count b B) {row : List Nat} (hr : GoodRow count row) (hl : row.length ≤ 40) : tab.sem (n + 4) 33 [encMk m, .str row] = .ok (.non, false, .non) := by
  rw [sem0 tab (n + 3) 33 b_33 _ rfl rfl rfl]
  have e1 := sem_is_row n h hr hl
  simp -implicitDefEqProofs [b_33, e1]
/-! a typed make is a make -/
theorem okF_isForm {f : Fo} (h : OkF size b f) : isForm size (encF f) = true := by
  rw [encF, isForm_ints]
  have hd := h.dpos
  simp [okForm, h.len, h.cop, hd]
theorem frac_isFrac (q : Rat) : isFrac (frac q) = true := by
  have h1 := q.den_pos
  have h2 := q.reduced
  have h3 : (1 : Int) ≤ q.den := by omega
  have h4 : Int.gcd q.num q.den = 1 := h2
  simp only [isFrac, frac, h3, h4, decide_true, Bool.true_and, beq_self_eq_true]
theorem wf_isMake (h : WF m size phases count b B) : isMake (encMk m) = true := by
  have h1 := h.st
  have h2 := h.p1
  have h3 := h.p5
  have h4 := h.sz
  have hc1 := h.c1
  have hc5 := h.c5
  have hv : (m.vals.map frac).all isFrac = true := List.all_eq_true.mpr fun x hx => by
    obtain ⟨q, _, rfl⟩ := List.mem_map.mp hx
    exact frac_isFrac q
  have hp : (m.phs.map encPh).all (isPhase size phases) = true := List.all_eq_true.mpr fun x hx => by
    obtain ⟨p, hp, rfl⟩ := List.mem_map.mp hx
    have a := okF_isForm (h.shn p hp)
    have hl := h.mvs p hp
    have c : (p.2.map encMv).all (isMove size phases) = true := List.all_eq_true.mpr fun x hx => by
      obtain ⟨v, hv, rfl⟩ := List.mem_map.mp hx
      obtain ⟨k1, k2, k3⟩ := h.nxt p hp v hv
      have d : (v.2.map encF).all (isForm size) = true := List.all_eq_true.mpr fun x hx => by
        obtain ⟨f, hf, rfl⟩ := List.mem_map.mp hx
        exact okF_isForm (k3 f hf)
      have d0 : (0 : Int) ≤ v.1 := by omega
      have d1 : (v.1 : Int) ≤ (phases : Int) - 1 := by omega
      simp only [isMove, encMv, isBet, d0, d1, d, List.length_map, k2, decide_true, Bool.and_self]
    simp only [isPhase, encPh, a, c, List.length_map, hl, hc1, hc5, decide_true, Bool.and_self]
  have hq : (m.phs.map encPh).all (fun p => decide (movesOf p = count)) = true := List.all_eq_true.mpr fun x hx => by
    obtain ⟨p, hp, rfl⟩ := List.mem_map.mp hx
    simp [movesOf, encPh, h.mvs p hp]
  have h0 : movesOf ((m.phs.map encPh).headD .non) = count := by
    cases q : m.phs with
    | nil => have := h.plen; rw [q] at this; simp at this; omega
    | cons p r => simp [movesOf, encPh, h.mvs p (by rw [q]; simp)]
  have d0 : (0 : Int) ≤ m.st := by omega
  have d1 : (m.st : Int) ≤ (phases : Int) - 1 := by omega
  simp only [isMake, encMk, isBet, List.length_map, h.vlen, h.plen, h2, h3, h4, hv, hp, d0, d1, decide_true, Bool.and_self, Bool.true_and]
  rw [h0]
  exact hq
theorem wf_tame (h : WF m size phases count b B) : tame 8 (encMk m) = true := by
  have h1 := h.st
  have h2 := h.p1
  have h3 := h.p5
  have h4 := h.sz
  have hc1 := h.c1
  have hc5 := h.c5
  have tf : ∀ (k : Nat) (f : Fo), OkF size b f → tame (k + 1) (encF f) = true := by
    intro k f hf
    simp only [encF, tame, Bool.and_eq_true, decide_eq_true_eq]
    refine ⟨by simp [hf.len]; omega, tames_of fun x hx => ?_⟩
    obtain ⟨i, _, rfl⟩ := List.mem_map.mp hx
    simp [tame]
  simp only [encMk, tame, tames, Bool.and_eq_true, decide_eq_true_eq, List.length_cons, List.length_nil, List.length_map, h.vlen, h.plen, Bool.and_true]
  refine ⟨by omega, trivial, ⟨by omega, tames_of fun x hx => ?_⟩, by omega, tames_of fun x hx => ?_⟩
  · obtain ⟨q, _, rfl⟩ := List.mem_map.mp hx
    simp [frac, tame, tames]
  · obtain ⟨p, hp, rfl⟩ := List.mem_map.mp hx
    simp only [encPh, tame, tames, Bool.and_eq_true, decide_eq_true_eq, List.length_cons, List.length_nil, List.length_map, h.mvs p hp, Bool.and_true]
    refine ⟨by omega, tf _ _ (h.shn p hp), by omega, tames_of fun x hx => ?_⟩
    obtain ⟨v, hv, rfl⟩ := List.mem_map.mp hx
    obtain ⟨k1, k2, k3⟩ := h.nxt p hp v hv
    simp only [encMv, tame, tames, Bool.and_eq_true, decide_eq_true_eq, List.length_cons, List.length_nil, List.length_map, k2, Bool.and_true]
    refine ⟨by omega, trivial, by omega, tames_of fun x hx => ?_⟩
    obtain ⟨f, hf, rfl⟩ := List.mem_map.mp hx
    exact tf _ _ (k3 f hf)
theorem sem_need_make (n : Nat) (h : WF m size phases count b B) : tab.sem (n + 7) 9 [encMk m] = .ok (.non, false, .non) :=
  sem_need n 8 _ (by omega) (wf_tame h) (wf_isMake h)
theorem sem_isMake (n : Nat) (h : WF m size phases count b B) : tab.sem (n + 6) 8 [encMk m] = .ok (.bl true, false, .non) := by
  have := sem_is_make n 8 _ (wf_tame h)
  rw [wf_isMake h] at this
  exact this
theorem sem_state (n : Nat) (h : WF m size phases count b B) {row : List Nat} (hN : b + (B + 40 * (5 * b + 3)) < 66000000) (hr : GoodRow count row) (hl : row.length ≤ 40) : tab.sem (n + 8) 42 [encMk m, .str row] = .ok (encSt (behindF m (m.st, m.vals) row), false, .non) := by
  rw [sem0 tab (n + 7) 42 b_42 _ rfl rfl rfl]
  have e1 := sem_need_make n h
  have e2 := sem_need_row (n + 3) h hr hl
  have e3 := sem_first_state (m := m) (n + 6)
  have e4 := sem_state_behind n h (by have := Nat.mul_le_mul_right (5 * b + 3) hl; omega) h.first hr
  simp -implicitDefEqProofs [b_42, e1, e2, e3, e4]
theorem sem_shown (n : Nat) (h : WF m size phases count b B) {row : List Nat} (hN : b + (B + 40 * (5 * b + 3)) < 66000000) (hr : GoodRow count row) (hl : row.length ≤ 40) : tab.sem (n + 9) 43 [encMk m, .str row] = .ok (frac (shownF m (behindF m (m.st, m.vals) row)), false, .non) := by
  rw [sem0 tab (n + 8) 43 b_43 _ rfl rfl rfl]
  have e1 := sem_state n h hN hr hl
  have e2 := sem_shown_in (n + 2) h (by have := Nat.mul_le_mul_right (5 * b + 3) hl; omega) (behind_ok h h.first hr)
  simp -implicitDefEqProofs [b_43, e1, e2]
theorem sem_all_shown (n : Nat) (h : WF m size phases count b B) {row : List Nat} (hN : b + (B + 40 * (5 * b + 3)) < 66000000) (hr : GoodRow count row) (hl : row.length ≤ 40) : tab.sem (n + 8) 44 [encMk m, .str row] = .ok (.lst ((allF m (m.st, m.vals) row).map frac), true, .non) := by
  rw [sem0 tab (n + 7) 44 b_44 _ rfl rfl rfl]
  have e1 := sem_need_make n h
  have e2 := sem_need_row (n + 3) h hr hl
  have e4 := sem_all_behind n h (by have := Nat.mul_le_mul_right (5 * b + 3) hl; omega) hr (by omega)
  simp -implicitDefEqProofs [b_44, e1, e2, e4]
/-! ### the laws' own -/
@[simp] theorem asg_mv (i j : Nat) (p : Mov) (fr : Bool) (e : Env) : asg (.tp [.nm i, .nm j]) (encMv p) fr e = .ok (put (put e i (some (.f, .int p.1))) j (some (.f, .tup (p.2.map encF)))) := rfl
theorem sem_law_press (n : Nat) (h : WF m size phases count b B) {C : Nat} (hC : b + C < 66000000) {s : Sta} (hs : StOk size phases C s) {c : Nat} (hc : GoodK count c) : tab.sem (n + 4) 48 [encMk m, encSt s, .str [c]] = .ok (encSt (pressF m s c), false, .non) := by
  rw [sem0 tab (n + 3) 48 b_48 _ rfl rfl rfl]
  have h5 := h.c5
  have e1 := mt_index hc.1 (by have := hc.2; omega)
  have e2 := ph_at h hs.ph
  have e3 := mv_at h hs.ph hc
  have h1 := h.nxt _ (h.at_ hs.ph).2 _ (h.mv hs.ph hc).2
  have hz := h.sz
  have hl := hs.len
  have hc := comp_map (n := n + 3) (v := 5) (e := encF) (g := fun f => frac (valF f s.2)) (xs := (mvOf m s.1 c).2) (elt := E48_1) (env := [some (.f, encMk m), some (.f, encSt s), some (.f, .str [c]), some (.f, .int (mvOf m s.1 c).1), some (.f, .tup ((mvOf m s.1 c).2.map encF)), none])
    (fun f hf => ⟨false, by
      have e := sem_law_given n size b C (by omega) h.b1 hC (h1.2.2 f hf) hs.bd hl
      simp -implicitDefEqProofs [e]⟩) (fun s => by simp)
  have l1 : (mvOf m s.1 c).2.length ≤ line := by rw [h1.2.1]; simp [line]; omega
  have ee : encSt (pressF m s c) = .tup [.int (mvOf m s.1 c).1, .tup ((mvOf m s.1 c).2.map fun f => frac (valF f s.2))] := by
    simp [encSt, pressF, List.map_map, Function.comp_def]
  have l2 : 2 ≤ line := by decide
  rw [ee]
  simp -implicitDefEqProofs [b_48, knd, e1, e2, e3, hc, l1, l2]
theorem sem_law_seen (n : Nat) (h : WF m size phases count b B) {C : Nat} (hC : b + C < 66000000) {s : Sta} (hs : StOk size phases C s) : tab.sem (n + 4) 49 [encMk m, encSt s] = .ok (frac (shownF m s), false, .non) := by
  rw [sem0 tab (n + 3) 49 b_49 _ rfl rfl rfl]
  have e1 := ph_at h hs.ph
  have hz := h.sz
  have hl := hs.len
  have e2 := sem_law_given n size b C (by omega) h.b1 hC (h.shn _ (h.at_ hs.ph).2) hs.bd hl
  simp -implicitDefEqProofs [b_49, e1, e2, shownF]
theorem law_behind_loop (n : Nat) (h : WF m size phases count b B) (r : Slot) {N : Nat} (hN : b + N < 66000000) : ∀ (row : List Nat) {C : Nat} {s : Sta} (x : Slot), C + row.length * (5 * b + 3) ≤ N → StOk size phases C s → GoodRow count row →
    ∃ x', forL (tF (.nm 3)) (bF (tab.gl (n + 4)) L50_1) (row.map fun c => .str [c]) [some (.f, encMk m), some (.f, encSt s), r, x] = .ok (.nx [some (.f, encMk m), some (.f, encSt (behindF m s row)), r, x'])
  | [], C, s, x, hl, hs, hr => ⟨x, rfl⟩
  | c :: row, C, s, x, hl, hs, hr => by
    have hc := hr c List.mem_cons_self
    rw [List.length_cons, Nat.add_mul, Nat.one_mul] at hl
    have e := sem_law_press n h (by omega) hs hc
    obtain ⟨x', ih⟩ := law_behind_loop n h r hN row (some (.f, .str [c])) (by omega) (press_ok h hs hc) (fun d hd => hr d (List.mem_cons_of_mem _ hd))
    exact ⟨x', by simp -implicitDefEqProofs [forL, e, ih, behindF]⟩
theorem sem_law_behind (n : Nat) (h : WF m size phases count b B) {C : Nat} {row : List Nat} (hN : b + (C + row.length * (5 * b + 3)) < 66000000) {s : Sta} (hs : StOk size phases C s) (hr : GoodRow count row) : tab.sem (n + 5) 50 [encMk m, encSt s, .str row] = .ok (encSt (behindF m s row), false, .non) := by
  rw [sem0 tab (n + 4) 50 b_50 _ rfl rfl rfl]
  obtain ⟨x', e⟩ := law_behind_loop n h (some (.f, .str row)) hN row none (Nat.le_refl _) hs hr
  simp -implicitDefEqProofs [b_50, e]
theorem cut_mk : slD (encMk m) none (some 2) = some (encSt (m.st, m.vals), false) := rfl
theorem sem_law_number (n : Nat) (h : WF m size phases count b B) {row : List Nat} (hN : b + (B + row.length * (5 * b + 3)) < 66000000) (hr : GoodRow count row) : tab.sem (n + 6) 51 [encMk m, .str row] = .ok (frac (shownF m (behindF m (m.st, m.vals) row)), false, .non) := by
  rw [sem0 tab (n + 5) 51 b_51 _ rfl rfl rfl]
  have e1 := sem_law_behind n h hN h.first hr
  have e2 := sem_law_seen (n + 1) h hN (behind_ok h h.first hr)
  simp -implicitDefEqProofs [b_51, e1, e2, cut_mk, optI, isNo]
end
/-! ### == of the same -/
mutual
theorem eqD_refl : ∀ {n : Nat} {d : D}, shal n d = true → eqD d d = true
  | _, .non, _ => by simp [eqD]
  | _, .bl _, _ => by simp [eqD]
  | _, .int _, _ => by simp [eqD]
  | _, .str _, _ => by simp [eqD]
  | 0, .tup xs, h => by simp [shal] at h
  | n + 1, .tup xs, h => by
    simp only [shal] at h
    simp only [eqD]
    exact eqDs_refl h
  | 0, .lst xs, h => by simp [shal] at h
  | n + 1, .lst xs, h => by
    simp only [shal] at h
    simp only [eqD]
    exact eqDs_refl h
  | _, .dct _ _, h => by simp [shal] at h
  | _, .obj _ _, h => by simp [shal] at h
  | _, .scr _, h => by simp [shal] at h
theorem eqDs_refl : ∀ {n : Nat} {xs : List D}, shals n xs = true → eqDs xs xs = true
  | _, [], _ => by simp [eqDs]
  | n, x :: xs, h => by
    simp only [shals, Bool.and_eq_true] at h
    simp only [eqDs, Bool.and_eq_true]
    exact ⟨eqD_refl h.1, eqDs_refl h.2⟩
end
theorem ne_refl {d : D} (h : shal 40 d = true) : cmpD .ne d d = some false := by simp [cmpD, h, eqD_refl h]
theorem eq_refl {d : D} (h : shal 40 d = true) : cmpD .eq d d = some true := by simp [cmpD, h, eqD_refl h]
theorem shals_of {n : Nat} : ∀ {xs : List D}, (∀ x ∈ xs, shal n x = true) → shals n xs = true
  | [], _ => by simp [shals]
  | x :: r, h => by
    simp only [shals, Bool.and_eq_true]
    exact ⟨h x List.mem_cons_self, shals_of fun y hy => h y (List.mem_cons_of_mem _ hy)⟩
theorem shals_frac (n : Nat) (xs : List Rat) : shals (n + 1) (xs.map frac) = true := shals_of fun x hx => by
  obtain ⟨q, _, rfl⟩ := List.mem_map.mp hx
  exact shal_frac n q
theorem shal_st (s : Sta) : shal 40 (encSt s) = true := by
  simp [encSt, shal, shals, shals_frac]
end PK
end
section
set_option linter.all false
set_option maxRecDepth 100000
set_option maxHeartbeats 1000000
/-! PkQ6: drawn makes as typed ones; drawn rows. -/
namespace PK
theorem fm_typed {size : Nat} {d : D} (h : Fm size d) : ∃ f : Fo, d = encF f ∧ OkF size 4 f ∧ f.d.natAbs < 4 := by
  obtain ⟨is, rfl, h, hi, h3⟩ := h
  simp only [okForm, Bool.and_eq_true, decide_eq_true_eq] at h
  obtain ⟨⟨hl, hd⟩, hg⟩ := h
  obtain ⟨js, x, rfl⟩ : ∃ js x, is = js ++ [x] := by
    rcases List.eq_nil_or_concat is with rfl | ⟨js, x, rfl⟩
    · simp at hl
    · exact ⟨js, x, by simp⟩
  obtain ⟨as, c, rfl⟩ : ∃ as c, js = as ++ [c] := by
    rcases List.eq_nil_or_concat js with rfl | ⟨js, x, rfl⟩
    · simp at hl
    · exact ⟨js, x, by simp⟩
  have e : as ++ [c] ++ [x] = as ++ [c, x] := by simp
  rw [e] at hl hd hg hi h3 ⊢
  exact ⟨⟨as, c, x⟩, rfl, ⟨by simpa using hl, by simpa using hd, hg, fun i h => by have := hi i h; simp; omega⟩, by simp at h3; show x.natAbs < 4; omega⟩
theorem list_typed {α : Type} {P : D → Prop} {Q : α → Prop} {enc : α → D} (h : ∀ d, P d → ∃ a, d = enc a ∧ Q a) : ∀ {ds : List D}, (∀ d ∈ ds, P d) → ∃ as : List α, ds = as.map enc ∧ ∀ a ∈ as, Q a
  | [], _ => ⟨[], rfl, by simp⟩
  | d :: ds, hd => by
    obtain ⟨a, rfl, ha⟩ := h d (hd d List.mem_cons_self)
    obtain ⟨as, rfl, has⟩ := list_typed h fun d h => hd d (List.mem_cons_of_mem _ h)
    exact ⟨a :: as, rfl, fun b hb => by rcases List.mem_cons.mp hb with rfl | hb; exact ha; exact has b hb⟩
theorem mv_typed {size phases : Nat} {d : D} (h : Mv size phases d) : ∃ v : Mov, d = encMv v ∧ v.1 < phases ∧ v.2.length = size ∧ ∀ f ∈ v.2, OkF size 4 f ∧ f.d.natAbs < 4 := by
  obtain ⟨r, fs, rfl, h0, h1, hl, hf⟩ := h
  obtain ⟨as, rfl, ha⟩ := list_typed (fun d h => fm_typed h) hf
  obtain ⟨k, rfl⟩ : ∃ k : Nat, r = k := ⟨r.toNat, by omega⟩
  exact ⟨(k, as), rfl, by simp; omega, by simpa using hl, ha⟩
theorem ph_typed {size phases count : Nat} {d : D} (h : Ph size phases count d) : ∃ p : Pha, d = encPh p ∧ (OkF size 4 p.1 ∧ p.1.d.natAbs < 4) ∧ p.2.length = count ∧ ∀ v ∈ p.2, v.1 < phases ∧ v.2.length = size ∧ ∀ f ∈ v.2, OkF size 4 f ∧ f.d.natAbs < 4 := by
  obtain ⟨f, ms, rfl, hf, hl, hm⟩ := h
  obtain ⟨as, rfl, ha⟩ := list_typed (fun d h => mv_typed h) hm
  obtain ⟨g, rfl, hg⟩ := fm_typed hf
  exact ⟨(g, as), rfl, hg, by simpa using hl, ha⟩
theorem fr_typed {d : D} (h : Frc d) : ∃ q : Rat, d = frac q ∧ Bd 4 [q] := by
  obtain ⟨a, c, rfl, hg, hc, ha, hc2⟩ := h
  have e : frac (Rat.divInt a c) = .tup [.int a, .int c] := by
    have := low_frac (a := a) (b := c) (by omega)
    rw [← this, hg]
    simp
  refine ⟨_, e.symm, c, by omega, by simp; omega, fun q hq => ?_⟩
  rw [List.mem_singleton.mp hq]
  exact ⟨a, divInt_mul a (by omega), by simp; omega⟩
theorem bd_list : ∀ {qs : List Rat}, (∀ q ∈ qs, Bd 4 [q]) → Bd (1 + 4 * qs.length) qs
  | [], _ => Bd.nil
  | q :: qs, h => by
    have h1 := h q List.mem_cons_self
    have h2 := bd_list fun p hp => h p (List.mem_cons_of_mem _ hp)
    have := h1.app h2
    simp only [List.cons_append, List.nil_append] at this
    exact this.mono (by simp; omega)
theorem mk_typed {size phases count : Nat} (hz : size ≤ 4) (h1 : 1 ≤ phases) (h5 : phases ≤ 5) (c1 : 1 ≤ count) (c5 : count ≤ 5) {d : D} (h : Mk size phases count d) : ∃ m : Mke, d = encMk m ∧ WF m size phases count 4 17 ∧ Dn m 2 := by
  obtain ⟨r, vs, ps, rfl, r0, r1, hv, hvf, hp, hpp⟩ := h
  obtain ⟨qs, rfl, hq⟩ := list_typed (fun d h => fr_typed h) hvf
  obtain ⟨as, rfl, ha⟩ := list_typed (fun d h => ph_typed h) hpp
  obtain ⟨k, rfl⟩ : ∃ k : Nat, r = k := ⟨r.toNat, by omega⟩
  simp only [List.length_map] at hv hp
  refine ⟨⟨k, qs, as⟩, rfl, ?_⟩
  refine ⟨?_, fun p h => ⟨(ha p h).1.2, fun v hv f hf => (((ha p h).2.2 v hv).2.2 f hf).2⟩⟩
  exact { st := by show k < phases; omega, vlen := hv, vbd := (bd_list hq).mono (by omega), plen := hp, shn := fun p h => (ha p h).1.1, mvs := fun p h => (ha p h).2.1, nxt := fun p h v hv => ⟨((ha p h).2.2 v hv).1, ((ha p h).2.2 v hv).2.1, fun f hf => (((ha p h).2.2 v hv).2.2 f hf).1⟩, sz := hz, p1 := h1, p5 := h5, c1 := c1, c5 := c5, b1 := by omega }
theorem sem_makeT (n size phases count : Nat) (hz : size ≤ 4) (hp : 1 ≤ phases) (hp2 : phases ≤ 5) (c1 : 1 ≤ count) (hc : count ≤ 5) {s : D} (hs : Src s) : ∃ m s', tab.sem (n + 5) 20 [s, .int size, .int phases, .int count] = .ok (encMk m, false, s') ∧ WF m size phases count 4 17 ∧ Src s' := by
  obtain ⟨d, s', e, h, hs'⟩ := sem_make n size phases count (by omega) hp (by omega) (by omega) hs
  obtain ⟨m, rfl, hw, _⟩ := mk_typed hz hp hp2 c1 hc h
  exact ⟨m, s', e, hw, hs'⟩
theorem sem_makeD (n size phases count : Nat) (hz : size ≤ 4) (hp : 1 ≤ phases) (hp2 : phases ≤ 5) (c1 : 1 ≤ count) (hc : count ≤ 5) {s : D} (hs : Src s) : ∃ m s', tab.sem (n + 5) 20 [s, .int size, .int phases, .int count] = .ok (encMk m, false, s') ∧ WF m size phases count 4 17 ∧ Dn m 2 ∧ Src s' := by
  obtain ⟨d, s', e, h, hs'⟩ := sem_make n size phases count (by omega) hp (by omega) (by omega) hs
  obtain ⟨m, rfl, hw, hd⟩ := mk_typed hz hp hp2 c1 hc h
  exact ⟨m, s', e, hw, hd, hs'⟩
/-- a number drawn, as a natural one -/
theorem sem_drawN (n : Nat) {s : D} (hs : Src s) (size : Int) (h1 : 1 ≤ size) : ∃ (r : Nat) (s' : D), tab.sem (n + 1) 14 [s, .int size] = .ok (.int r, false, s') ∧ (r : Int) < size ∧ Src s' := by
  obtain ⟨r, s', e, h0, hr, hs'⟩ := sem_draw n hs size h1
  obtain ⟨k, rfl⟩ : ∃ k : Nat, r = k := ⟨r.toNat, by omega⟩
  exact ⟨k, s', e, by omega, hs'⟩
theorem strs_of : ∀ cs : List Nat, strsD (cs.map fun c => D.str [c]) = some (cs.map fun c => [c])
  | [] => rfl
  | c :: r => by simp [strsD, strs_of r]
theorem join_lets (cs : List Nat) (hl : cs.length ≤ 1000) : mtD .join (.str []) [.lst (cs.map fun c => D.str [c])] = some (.str cs, false) := by
  have e1 : ∀ cs : List Nat, sumLen (cs.map fun c => [c]) = cs.length := by
    intro cs
    induction cs with
    | nil => rfl
    | cons c r ih => simp [sumLen, ih]; omega
  have e2 : joinN [] (cs.map fun c => [c]) = cs := by
    cases cs with
    | nil => rfl
    | cons c r => simp [joinN, List.flatMap_map]
  show (match strsD _ with | some ss => _ | none => _) = _
  rw [strs_of]
  simp only [e1, e2]
  rw [if_pos (by simp [line]; omega)]
theorem sem_law_row (n count most : Nat) (c1 : 1 ≤ count) (c5 : count ≤ 5) (hm : most ≤ 900) {s : D} (hs : Src s) : ∃ row s', tab.sem (n + 2) 52 [s, .int count, .int most] = .ok (.str row, false, s') ∧ GoodRow count row ∧ row.length ≤ most ∧ Src s' := by
  rw [sem1 tab (n + 1) 52 b_52 _ _ rfl rfl rfl]
  obtain ⟨r, s1, e1, hr, hs1⟩ := sem_drawN n hs (most + 1) (by omega)
  obtain ⟨ds, env', e2, ⟨s2, hs2, rfl⟩, hl, hd⟩ := comp_draw (I := fun e => ∃ s', Src s' ∧ e = [some (.io, s'), some (.f, .int count), some (.f, .int most), none]) (Q := fun d => ∃ c, d = .str [c] ∧ GoodK count c) (vs := [3]) (ft := tF (.nm 3)) (fi := iF (tab.gl (n + 1)) []) (fe := xF (tab.gl (n + 1)) E52_1) (env := [some (.io, s1), some (.f, .int count), some (.f, .int most), none]) r
    (fun j env ⟨s', hs', he⟩ => by
      subst he
      obtain ⟨k, s2, e, hk, hs2⟩ := sem_drawN n hs' count (by omega)
      refine ⟨[some (.io, s'), some (.f, .int count), some (.f, .int most), some (.f, .int j)], [some (.io, s'), some (.f, .int count), some (.f, .int most), some (.f, .int j)], (.str [97 + k], false), [some (.io, s2), some (.f, .int count), some (.f, .int most), some (.f, .int j)], rfl, rfl, ?_, ⟨97 + k, rfl, by omega, by omega⟩, s2, hs2, rfl⟩
      have ea : ixD (.str [97, 98, 99, 100, 101]) (.int k) = some (.str [97 + k]) := by
        simp only [ixD]
        rw [if_pos (by decide), atZ_nat]
        rcases (by omega : k = 0 ∨ k = 1 ∨ k = 2 ∨ k = 3 ∨ k = 4) with rfl | rfl | rfl | rfl | rfl <;> rfl
      simp -implicitDefEqProofs [e, ea]) ⟨s1, hs1, rfl⟩
  obtain ⟨cs, rfl, hcs⟩ := list_typed (enc := fun c : Nat => D.str [c]) (Q := GoodK count) (fun d h => h) hd
  simp only [List.length_map] at hl
  refine ⟨cs, s2, ?_, hcs, by omega, hs2⟩
  have ej := join_lets cs (by omega)
  have rk : rngOk (r : Int) = true := by simp [rngOk]; omega
  have l1 : cs.length ≤ line := by simp [line]; omega
  simp -implicitDefEqProofs [b_52, e1, rk, e2, l1, knd, ej]
theorem all_last (m : Mke) : ∀ (row : List Nat) (s : Sta), (allF m s row).getLast? = some (shownF m (behindF m s row))
  | [], s => rfl
  | c :: r, s => by
    have := all_last m r (pressF m s c)
    simp only [allF, tailF, behindF, List.foldl_cons] at this ⊢
    rw [List.getLast?_cons_cons]
    exact this
theorem tail_len (m : Mke) : ∀ (row : List Nat) (s : Sta), (tailF m s row).length = row.length
  | [], s => rfl
  | c :: r, s => by simp [tailF, tail_len m r]
end PK
end
section
set_option linter.all false
set_option maxRecDepth 100000
set_option maxHeartbeats 1000000
/-! PkA1: vectors of rational numbers, bases: plain Lean. -/
namespace PK
abbrev V := List Rat
abbrev Bas := List (Nat × V)
def nth (v : V) (i : Nat) : Rat := v.getD i 0
def lessQ (v : V) (c : Rat) (w : V) : V := if c = 0 then v else List.zipWith (fun a b => a - c * b) v w
def placeQ (v : V) : Nat → Option Nat
  | 0 => none
  | n + 1 => match placeQ v n with
    | some p => some p
    | none => if nth v n = 0 then none else some n
def reducedQ (b : Bas) (v : V) : V := b.foldl (fun f r => lessQ f (nth f r.1) r.2) v
def scaledQ (v : V) (p : Nat) : V := v.map fun a => a / nth v p
def longerQ (b : Bas) (v : V) (w : Nat) : Option Bas := match placeQ (reducedQ b v) w with
  | none => none
  | some p => some (b ++ [(p, scaledQ (reducedQ b v) p)])
theorem nth_zip {f : Rat → Rat → Rat} (hf : f 0 0 = 0) : ∀ {v w : V} {i : Nat}, v.length = w.length → nth (List.zipWith f v w) i = f (nth v i) (nth w i)
  | [], [], i, _ => by simp [nth, hf]
  | [], _ :: _, i, h => by simp at h
  | _ :: _, [], i, h => by simp at h
  | a :: v, b :: w, 0, _ => by simp [nth]
  | a :: v, b :: w, i + 1, h => by
    have := nth_zip hf (v := v) (w := w) (i := i) (by simpa using h)
    simpa [nth] using this
theorem less_len {v w : V} (c : Rat) (h : v.length = w.length) : (lessQ v c w).length = v.length := by
  unfold lessQ
  split
  · rfl
  · simp [h]
theorem less_nth {v w : V} (c : Rat) (i : Nat) (h : v.length = w.length) : nth (lessQ v c w) i = nth v i - c * nth w i := by
  unfold lessQ
  split
  · rename_i hc; rw [hc]; grind
  · exact nth_zip (f := fun a b => a - c * b) (by grind) h
theorem dot_zip (c : Rat) : ∀ {v w x : V}, v.length = w.length → dotQ (List.zipWith (fun a b => a - c * b) v w) x = dotQ v x - c * dotQ w x
  | [], [], x, _ => by cases x <;> (simp [dotQ]; grind)
  | [], _ :: _, x, h => by simp at h
  | _ :: _, [], x, h => by simp at h
  | a :: v, b :: w, [], h => by simp [dotQ]; grind
  | a :: v, b :: w, y :: x, h => by
    have := dot_zip c (v := v) (w := w) (x := x) (by simpa using h)
    simp only [List.zipWith_cons_cons, dotQ, this]
    grind
theorem less_dot {v w : V} (c : Rat) (x : V) (h : v.length = w.length) : dotQ (lessQ v c w) x = dotQ v x - c * dotQ w x := by
  unfold lessQ
  split
  · rename_i hc; rw [hc]; grind
  · exact dot_zip c h
theorem place_none {v : V} : ∀ {n : Nat}, placeQ v n = none → ∀ i, i < n → nth v i = 0
  | 0, _, i, h => absurd h (Nat.not_lt_zero _)
  | n + 1, e, i, h => by
    unfold placeQ at e
    split at e
    · cases e
    · rename_i e1
      split at e
      · rename_i h0
        rcases Nat.lt_succ_iff_lt_or_eq.mp h with h | h
        · exact place_none e1 i h
        · rw [h]; exact h0
      · cases e
theorem place_some {v : V} : ∀ {n p : Nat}, placeQ v n = some p → p < n ∧ nth v p ≠ 0 ∧ ∀ i, i < p → nth v i = 0
  | 0, p, e => by cases e
  | n + 1, p, e => by
    unfold placeQ at e
    split at e
    · rename_i q e1
      cases e
      obtain ⟨h1, h2, h3⟩ := place_some e1
      exact ⟨by omega, h2, h3⟩
    · rename_i e1
      split at e
      · cases e
      · rename_i h0
        cases e
        exact ⟨by omega, h0, place_none e1⟩
theorem scaled_len (v : V) (p : Nat) : (scaledQ v p).length = v.length := by simp [scaledQ]
theorem scaled_nth (v : V) (p i : Nat) : nth (scaledQ v p) i = nth v i / nth v p := by
  unfold scaledQ
  generalize nth v p = c
  unfold nth
  rw [List.getD_eq_getElem?_getD, List.getD_eq_getElem?_getD, List.getElem?_map]
  cases v[i]? with
  | none => simp; rw [Rat.div_def, Rat.zero_mul]
  | some a => rfl
theorem scaled_dot (v : V) (p : Nat) (x : V) : dotQ (scaledQ v p) x = dotQ v x / nth v p := by
  unfold scaledQ
  generalize nth v p = c
  induction v generalizing x with
  | nil => cases x <;> (simp [dotQ]; rw [Rat.div_def, Rat.zero_mul])
  | cons a v ih =>
    cases x with
    | nil => simp [dotQ]; rw [Rat.div_def, Rat.zero_mul]
    | cons b x =>
      simp only [List.map_cons, dotQ, ih]
      simp only [Rat.div_def]
      grind
/-- a basis: each row has 1 at its place, 0 at those of all before it -/
inductive BOk (w n : Nat) : Bas → Prop
  | nil : BOk w n []
  | snoc {b : Bas} {p : Nat} {r : V} : BOk w n b → p < w → r.length = n → nth r p = 1 → (∀ q ∈ b, nth r q.1 = 0) → (∀ q ∈ b, q.1 ≠ p) → BOk w n (b ++ [(p, r)])
theorem red_snoc (b : Bas) (q : Nat × V) (v : V) : reducedQ (b ++ [q]) v = lessQ (reducedQ b v) (nth (reducedQ b v) q.1) q.2 := by
  simp [reducedQ, List.foldl_append]
theorem red_len {w n : Nat} {b : Bas} (h : BOk w n b) {v : V} (hv : v.length = n) : (reducedQ b v).length = n := by
  induction h with
  | nil => simpa [reducedQ] using hv
  | snoc hb hp hr h1 h0 hd ih =>
    rw [red_snoc, less_len _ (by rw [ih, hr]), ih]
/-- the reduced vector is 0 at all places -/
theorem red_zero {w n : Nat} {b : Bas} (h : BOk w n b) {v : V} (hv : v.length = n) : ∀ q ∈ b, nth (reducedQ b v) q.1 = 0 := by
  induction h with
  | nil => intro q hq; cases hq
  | @snoc b p r hb hp hr h1 h0 hd ih =>
    intro q hq
    rw [red_snoc, less_nth _ _ (by rw [red_len hb hv, hr])]
    rcases List.mem_append.mp hq with hq | hq
    · rw [ih q hq, h0 q hq]; grind
    · rw [List.mem_singleton.mp hq, h1]; grind
theorem longer_ok {w n : Nat} {b b2 : Bas} (h : BOk w n b) {v : V} (hv : v.length = n) (e : longerQ b v w = some b2) : BOk w n b2 := by
  unfold longerQ at e
  split at e
  · cases e
  · rename_i p e1
    cases e
    obtain ⟨h1, h2, h3⟩ := place_some e1
    refine .snoc h h1 (by rw [scaled_len, red_len h hv]) ?_ (fun q hq => ?_) (fun q hq he => ?_)
    · rw [scaled_nth, Rat.div_def, Rat.mul_inv_cancel _ h2]
    · rw [scaled_nth, red_zero h hv q hq, Rat.div_def, Rat.zero_mul]
    · have := red_zero h hv q hq
      rw [he] at this
      exact h2 this
/-- a vector is killed where the basis and the reduced one are -/
theorem red_dot {w n : Nat} {b : Bas} (h : BOk w n b) {v : V} (hv : v.length = n) (x : V) (hb : ∀ q ∈ b, dotQ q.2 x = 0) : dotQ (reducedQ b v) x = dotQ v x := by
  induction h with
  | nil => rfl
  | @snoc b p r hok hp hr h1 h0 hd ih =>
    rw [red_snoc, less_dot _ _ (by rw [red_len hok hv, hr]), ih fun q hq => hb q (List.mem_append_left _ hq), hb (p, r) (by simp)]
    grind
theorem zero_dot : ∀ {v : V} (x : V), (∀ i, i < v.length → nth v i = 0) → dotQ v x = 0
  | [], x, _ => by cases x <;> rfl
  | a :: v, [], _ => rfl
  | a :: v, b :: x, h => by
    have h0 : a = 0 := h 0 (by simp)
    have := zero_dot (v := v) x fun i hi => h (i + 1) (by simpa using hi)
    rw [dotQ, this, h0]
    grind
theorem longer_none {n : Nat} {b : Bas} (h : BOk n n b) {v : V} (hv : v.length = n) (e : longerQ b v n = none) {x : V} (hb : ∀ q ∈ b, dotQ q.2 x = 0) : dotQ v x = 0 := by
  unfold longerQ at e
  split at e
  · rename_i e1
    rw [← red_dot h hv x hb]
    exact zero_dot x fun i hi => place_none e1 i (by rw [red_len h hv] at hi; exact hi)
  · cases e
theorem longer_rows {w n : Nat} {b b2 : Bas} (h : BOk w n b) {v : V} (hv : v.length = n) (e : longerQ b v w = some b2) {x : V} (hb : ∀ q ∈ b, dotQ q.2 x = 0) (hx : dotQ v x = 0) : ∀ q ∈ b2, dotQ q.2 x = 0 := by
  unfold longerQ at e
  split at e
  · cases e
  · rename_i p e1
    cases e
    intro q hq
    rcases List.mem_append.mp hq with hq | hq
    · exact hb q hq
    · rw [List.mem_singleton.mp hq, scaled_dot, red_dot h hv x hb, hx, Rat.div_def, Rat.zero_mul]
theorem longer_len {w : Nat} {b b2 : Bas} {v : V} (e : longerQ b v w = some b2) : b2.length = b.length + 1 := by
  unfold longerQ at e
  split at e
  · cases e
  · cases e; simp
theorem nodup_lt : ∀ {w : Nat} {l : List Nat}, l.Nodup → (∀ x ∈ l, x < w) → l.length ≤ w
  | 0, l, _, h => by
    cases l with
    | nil => simp
    | cons a l => exact absurd (h a (by simp)) (Nat.not_lt_zero _)
  | w + 1, l, hn, h => by
    have h1 := nodup_lt (w := w) (l := l.erase w) (hn.erase w) (fun x hx => by
      have h2 := h x (List.mem_of_mem_erase hx)
      have h3 : x ≠ w := fun e => by subst e; exact (List.Nodup.not_mem_erase hn) hx
      omega)
    by_cases hm : w ∈ l
    · rw [List.length_erase_of_mem hm] at h1; omega
    · rw [List.erase_of_not_mem hm] at h1; omega
theorem bok_places {w n : Nat} {b : Bas} (h : BOk w n b) : (b.map (·.1)).Nodup ∧ ∀ x ∈ b.map (·.1), x < w := by
  induction h with
  | nil => simp
  | @snoc b p r hb hp hr h1 h0 hd ih =>
    rw [List.map_append]
    refine ⟨List.nodup_append.mpr ⟨ih.1, by simp, fun x hx y hy => ?_⟩, fun x hx => ?_⟩
    · simp only [List.map_cons, List.map_nil, List.mem_singleton] at hy
      subst hy
      obtain ⟨q, hq, rfl⟩ := List.mem_map.mp hx
      exact hd q hq
    · rcases List.mem_append.mp hx with hx | hx
      · exact ih.2 x hx
      · simp at hx; omega
theorem bok_len {w n : Nat} {b : Bas} (h : BOk w n b) : b.length ≤ w := by
  have := nodup_lt (bok_places h).1 (bok_places h).2
  simpa using this
end PK
end
section
set_option linter.all false
set_option maxRecDepth 100000
set_option maxHeartbeats 1000000
/-! PkA2: first rows kept of a system, level by level: plain Lean. -/
namespace PK
abbrev Row := List Nat
/-- the shorter one first, then by letters -/
def rle (a b : Row) : Prop := a.length < b.length ∨ (a.length = b.length ∧ a ≤ b)
def rlt (a b : Row) : Prop := a.length < b.length ∨ (a.length = b.length ∧ a < b)
theorem rle_refl (a : Row) : rle a a := .inr ⟨rfl, List.le_refl a⟩
theorem rle_trans {a b c : Row} (h : rle a b) (k : rle b c) : rle a c := by
  rcases h with h | ⟨h, h2⟩ <;> rcases k with k | ⟨k, k2⟩
  · exact .inl (by omega)
  · exact .inl (by omega)
  · exact .inl (by omega)
  · exact .inr ⟨by omega, List.le_trans h2 k2⟩
theorem rle_cons (k : Nat) {a b : Row} (h : rle a b) : rle (k :: a) (k :: b) := by
  rcases h with h | ⟨h, h2⟩
  · exact .inl (by simpa using h)
  · exact .inr ⟨by simpa using h, List.cons_le_cons_iff.mpr (.inr ⟨rfl, h2⟩)⟩
theorem rlt_rle {a b : Row} (h : rlt a b) : rle a b := by
  rcases h with h | ⟨h, h2⟩
  · exact .inl h
  · exact .inr ⟨h, List.le_of_lt h2⟩
theorem rlt_not {a b : Row} (h : rlt a b) : ¬ rle b a := by
  rcases h with h | ⟨h, h2⟩ <;> rintro (k | ⟨k, k2⟩)
  · omega
  · omega
  · omega
  · exact absurd h2 k2
theorem rle_total (a b : Row) : rle a b ∨ rlt b a := by
  rcases Nat.lt_trichotomy a.length b.length with h | h | h
  · exact .inl (.inl h)
  · by_cases k : b < a
    · exact .inr (.inr ⟨h.symm, k⟩)
    · exact .inl (.inr ⟨h, k⟩)
  · exact .inr (.inl h)
theorem rle_anti {a b : Row} (h : rle a b) (k : rle b a) : a = b := by
  rcases h with h | ⟨h, h2⟩ <;> rcases k with k | ⟨k, k2⟩
  · omega
  · omega
  · omega
  · exact List.le_antisymm h2 k2
structure Sys (ι : Type) where
  ps : List ι
  ks : List Nat
  nx : ι → Nat → ι
  T : ι → Nat → V → V
  pr : ι → Nat → V → V
  v0 : ι → V
  w : Nat
section
variable {ι : Type} [DecidableEq ι]
structure Sys.Ok (S : Sys ι) : Prop where
  nxm : ∀ p ∈ S.ps, ∀ k ∈ S.ks, S.nx p k ∈ S.ps
  nod : S.ps.Nodup
  kso : S.ks.Pairwise (· < ·)
  l0 : ∀ p ∈ S.ps, (S.v0 p).length = S.w
  lT : ∀ p ∈ S.ps, ∀ k ∈ S.ks, ∀ v, v.length = S.w → (S.T p k v).length = S.w
  lp : ∀ p ∈ S.ps, ∀ k ∈ S.ks, ∀ x, x.length = S.w → (S.pr p k x).length = S.w
  adj : ∀ p ∈ S.ps, ∀ k ∈ S.ks, ∀ v x, v.length = S.w → x.length = S.w → dotQ (S.T p k v) x = dotQ v (S.pr p k x)
def Sys.at (S : Sys ι) : ι → Row → V
  | p, [] => S.v0 p
  | p, k :: r => S.T p k (S.at (S.nx p k) r)
abbrev Itm (ι : Type) := ι × Row × V
def stepK (w : Nat) (s : (ι → Bas) × List (Itm ι)) (c : Itm ι) : (ι → Bas) × List (Itm ι) := match longerQ (s.1 c.1) c.2.2 w with
  | none => s
  | some b => (fun i => if i = c.1 then b else s.1 i, s.2 ++ [c])
def Sys.behind (S : Sys ι) (added : List (Itm ι)) : List (Itm ι) :=
  S.ps.flatMap fun p => S.ks.flatMap fun k => (added.filter fun c => decide (c.1 = S.nx p k)).map fun c => (p, k :: c.2.1, S.T p k c.2.2)
structure KSt (ι : Type) where
  bas : ι → Bas
  kept : List (Itm ι)
  fresh : List (Itm ι)
def Sys.step (S : Sys ι) (s : KSt ι) : KSt ι :=
  ⟨(s.fresh.foldl (stepK S.w) (s.bas, [])).1, s.kept ++ (s.fresh.foldl (stepK S.w) (s.bas, [])).2, S.behind (s.fresh.foldl (stepK S.w) (s.bas, [])).2⟩
def Sys.lev (S : Sys ι) : Nat → KSt ι
  | 0 => ⟨fun _ => [], [], S.ps.map fun p => (p, [], S.v0 p)⟩
  | n + 1 => S.step (S.lev n)
variable {S : Sys ι}
theorem Sys.at_len (h : S.Ok) : ∀ (r : Row) {p : ι}, p ∈ S.ps → (∀ k ∈ r, k ∈ S.ks) → (S.at p r).length = S.w
  | [], p, hp, _ => h.l0 p hp
  | k :: r, p, hp, hr => h.lT p hp k (hr k (by simp)) _ (Sys.at_len h r (h.nxm p hp k (hr k (by simp))) fun j hj => hr j (by simp [hj]))
/-- an item that is true -/
def Sys.True (S : Sys ι) (c : Itm ι) : Prop := c.1 ∈ S.ps ∧ (∀ k ∈ c.2.1, k ∈ S.ks) ∧ c.2.2 = S.at c.1 c.2.1
theorem Sys.True.len (h : S.Ok) {c : Itm ι} (t : S.True c) : c.2.2.length = S.w := by
  rw [t.2.2]
  exact S.at_len h _ t.1 t.2.1
/-- an item whose vector is made of kept ones no later than it -/
def Done (w : Nat) (K : List (Itm ι)) (c : Itm ι) : Prop := ∀ x : V, x.length = w → (∀ d ∈ K, d.1 = c.1 → rle d.2.1 c.2.1 → dotQ d.2.2 x = 0) → dotQ c.2.2 x = 0
theorem Done.mono {w : Nat} {K L : List (Itm ι)} {c : Itm ι} (h : Done w K c) (hs : ∀ d ∈ K, d ∈ L) : Done w L c := fun x hx hl => h x hx fun d hd e r => hl d (hs d hd) e r
def Lt (a b : Itm ι) : Prop := a.1 = b.1 → rlt a.2.1 b.2.1
/-- bases and kept ones belong together -/
structure Held (S : Sys ι) (bas : ι → Bas) (K : List (Itm ι)) : Prop where
  bok : ∀ p, BOk S.w S.w (bas p)
  tru : ∀ c ∈ K, S.True c
  srt : K.Pairwise Lt
  kil : ∀ p (x : V), (∀ c ∈ K, c.1 = p → dotQ c.2.2 x = 0) → ∀ q ∈ bas p, dotQ q.2 x = 0
  cnt : ∀ p, (bas p).length = (K.filter fun c => decide (c.1 = p)).length
theorem held_step (h : S.Ok) {bas : ι → Bas} {K0 A : List (Itm ι)} (hd : Held S bas (K0 ++ A)) {c : Itm ι} (t : S.True c) (hl : ∀ d ∈ K0 ++ A, d.1 = c.1 → rlt d.2.1 c.2.1) :
    Held S (stepK S.w (bas, A) c).1 (K0 ++ (stepK S.w (bas, A) c).2) ∧ Done S.w (K0 ++ (stepK S.w (bas, A) c).2) c ∧ (∀ d ∈ A, d ∈ (stepK S.w (bas, A) c).2) ∧ ∀ d ∈ (stepK S.w (bas, A) c).2, d ∈ A ∨ d = c := by
  unfold stepK
  cases e : longerQ (bas c.1) c.2.2 S.w with
  | none =>
    refine ⟨hd, fun x hx hk => ?_, fun d hd => hd, fun d hd => .inl hd⟩
    exact longer_none (hd.bok c.1) (t.len h) e (hd.kil c.1 x fun d hdm e => hk d hdm e (rlt_rle (hl d hdm e)))
  | some b =>
    simp only
    rw [← List.append_assoc]
    refine ⟨⟨fun p => ?_, fun d hm => ?_, ?_, fun p x hx => ?_, fun p => ?_⟩, fun x hx hk => hk c (by simp) rfl (rle_refl _), fun d hd => by simp [hd], fun d hd => by simpa using hd⟩
    · split
      · exact longer_ok (hd.bok c.1) (t.len h) e
      · exact hd.bok p
    · rcases List.mem_append.mp hm with hm | hm
      · exact hd.tru d hm
      · rw [List.mem_singleton.mp hm]; exact t
    · refine List.pairwise_append.mpr ⟨hd.srt, by simp, fun a ha b' hb' => ?_⟩
      rw [List.mem_singleton.mp hb']
      exact fun e => hl a ha e
    · split
      · rename_i hp
        exact longer_rows (hd.bok c.1) (t.len h) e (hd.kil c.1 x fun d hdm e' => hx d (List.mem_append_left _ hdm) (by rw [e', hp])) (hx c (by simp) hp.symm)
      · exact hd.kil p x fun d hdm e' => hx d (List.mem_append_left _ hdm) e'
    · rw [List.filter_append, List.length_append]
      split
      · rename_i hp
        subst hp
        rw [longer_len e, hd.cnt]
        simp
      · rename_i hp
        rw [hd.cnt]
        have : ¬ c.1 = p := fun e => hp e.symm
        simp [this]
theorem held_fold (h : S.Ok) {K0 : List (Itm ι)} : ∀ {F : List (Itm ι)} {bas : ι → Bas} {A : List (Itm ι)}, Held S bas (K0 ++ A) → (∀ c ∈ F, S.True c) → F.Pairwise Lt → (∀ c ∈ F, ∀ d ∈ K0 ++ A, d.1 = c.1 → rlt d.2.1 c.2.1) →
    Held S (F.foldl (stepK S.w) (bas, A)).1 (K0 ++ (F.foldl (stepK S.w) (bas, A)).2) ∧ (∀ c ∈ F, Done S.w (K0 ++ (F.foldl (stepK S.w) (bas, A)).2) c) ∧ (∀ d ∈ A, d ∈ (F.foldl (stepK S.w) (bas, A)).2) ∧ ∀ d ∈ (F.foldl (stepK S.w) (bas, A)).2, d ∈ A ∨ d ∈ F
  | [], bas, A, hd, _, _, _ => ⟨hd, (fun c hc => nomatch hc), (fun d hd => hd), fun d hd => .inl hd⟩
  | c :: F, bas, A, hd, ht, hs, hl => by
    rw [List.pairwise_cons] at hs
    obtain ⟨h1, h2, h3, h4⟩ := held_step h hd (ht c (by simp)) (hl c (by simp))
    have hl' : ∀ c' ∈ F, ∀ d ∈ K0 ++ (stepK S.w (bas, A) c).2, d.1 = c'.1 → rlt d.2.1 c'.2.1 := fun c' hc' d hdm e => by
      rcases List.mem_append.mp hdm with hdm | hdm
      · exact hl c' (by simp [hc']) d (by simp [hdm]) e
      · rcases h4 d hdm with hdm | rfl
        · exact hl c' (by simp [hc']) d (by simp [hdm]) e
        · exact hs.1 c' hc' e
    obtain ⟨k1, k2, k3, k4⟩ := held_fold h (K0 := K0) (F := F) (bas := (stepK S.w (bas, A) c).1) (A := (stepK S.w (bas, A) c).2) h1 (fun d hd => ht d (by simp [hd])) hs.2 hl'
    rw [List.foldl_cons]
    have hpair : (stepK S.w (bas, A) c) = ((stepK S.w (bas, A) c).1, (stepK S.w (bas, A) c).2) := rfl
    rw [hpair]
    refine ⟨k1, fun d hd => ?_, fun d hd => k3 d (h3 d hd), fun d hd => ?_⟩
    · rcases List.mem_cons.mp hd with rfl | hd
      · exact h2.mono fun d hd => by
          rcases List.mem_append.mp hd with hd | hd
          · simp [hd]
          · exact List.mem_append_right _ (k3 d hd)
      · exact k2 d hd
    · rcases k4 d hd with hd | hd
      · rcases h4 d hd with hd | rfl
        · exact .inl hd
        · exact .inr (by simp)
      · exact .inr (by simp [hd])
/-- what may be kept: the empty row, and rows with one key ahead of a kept one -/
def Cand (S : Sys ι) (K : List (Itm ι)) (c : Itm ι) : Prop := (∃ p ∈ S.ps, c = (p, [], S.v0 p)) ∨ ∃ d ∈ K, ∃ p ∈ S.ps, ∃ k ∈ S.ks, S.nx p k = d.1 ∧ c = (p, k :: d.2.1, S.T p k d.2.2)
structure Lev (S : Sys ι) (n : Nat) (s : KSt ι) : Prop where
  held : Held S s.bas s.kept
  klen : ∀ c ∈ s.kept, c.2.1.length < n
  ftru : ∀ c ∈ s.fresh, S.True c
  flen : ∀ c ∈ s.fresh, c.2.1.length = n
  fsrt : s.fresh.Pairwise Lt
  cand : ∀ c, Cand S s.kept c → c ∈ s.fresh ∨ Done S.w s.kept c
  tail : ∀ c ∈ s.fresh ++ s.kept, ∀ k r, c.2.1 = k :: r → ∃ d ∈ s.kept, d.2.1 = r
theorem cand_true {K : List (Itm ι)} (h : S.Ok) (ht : ∀ c ∈ K, S.True c) {c : Itm ι} (hc : Cand S K c) : S.True c := by
  rcases hc with ⟨p, hp, rfl⟩ | ⟨d, hd, p, hp, k, hk, e, rfl⟩
  · exact ⟨hp, by simp, rfl⟩
  · obtain ⟨t1, t2, t3⟩ := ht d hd
    refine ⟨hp, fun j hj => ?_, ?_⟩
    · rcases List.mem_cons.mp hj with rfl | hj
      · exact hk
      · exact t2 j hj
    · show S.T p k d.2.2 = S.T p k (S.at (S.nx p k) d.2.1)
      rw [t3, e]
theorem mem_behind {A : List (Itm ι)} {c : Itm ι} : c ∈ S.behind A ↔ ∃ d ∈ A, ∃ p ∈ S.ps, ∃ k ∈ S.ks, S.nx p k = d.1 ∧ c = (p, k :: d.2.1, S.T p k d.2.2) := by
  unfold Sys.behind
  simp only [List.mem_flatMap, List.mem_map, List.mem_filter, decide_eq_true_eq]
  constructor
  · rintro ⟨p, hp, k, hk, d, ⟨hd, e⟩, rfl⟩
    exact ⟨d, hd, p, hp, k, hk, e.symm, rfl⟩
  · rintro ⟨d, hd, p, hp, k, hk, e, rfl⟩
    exact ⟨p, hp, k, hk, d, ⟨hd, e.symm⟩, rfl⟩
theorem behind_srt (h : S.Ok) {A : List (Itm ι)} (hs : A.Pairwise Lt) (hn : ∃ n, ∀ c ∈ A, c.2.1.length = n) : (S.behind A).Pairwise Lt := by
  obtain ⟨n, hn⟩ := hn
  unfold Sys.behind
  rw [List.pairwise_flatMap]
  refine ⟨fun p hp => ?_, ?_⟩
  · rw [List.pairwise_flatMap]
    refine ⟨fun k hk => ?_, ?_⟩
    · rw [List.pairwise_map]
      refine (hs.filter _).imp_of_mem fun {a b} ha hb hab => ?_
      intro _
      simp only [List.mem_filter, decide_eq_true_eq] at ha hb
      rcases hab (by rw [ha.2, hb.2]) with h1 | ⟨h1, h2⟩
      · exact .inl (by simpa using h1)
      · exact .inr ⟨by simpa using h1, List.cons_lt_cons_iff.mpr (.inr ⟨rfl, h2⟩)⟩
    · refine h.kso.imp fun {k k'} hkk x hx y hy => ?_
      intro _
      simp only [List.mem_map, List.mem_filter] at hx hy
      obtain ⟨a, ⟨ha, _⟩, rfl⟩ := hx
      obtain ⟨b, ⟨hb, _⟩, rfl⟩ := hy
      exact .inr ⟨by simp [hn a ha, hn b hb], List.cons_lt_cons_iff.mpr (.inl hkk)⟩
  · refine List.Pairwise.imp (R := fun a b : ι => a ≠ b) (fun {p q} hpq x hx y hy => ?_) h.nod
    intro e
    simp only [List.mem_flatMap, List.mem_map] at hx hy
    obtain ⟨_, _, _, _, rfl⟩ := hx
    obtain ⟨_, _, _, _, rfl⟩ := hy
    exact absurd e hpq
theorem lev_ok (h : S.Ok) : ∀ n, Lev S n (S.lev n)
  | 0 => by
    refine ⟨⟨fun _ => .nil, by simp [Sys.lev], by simp [Sys.lev], by simp [Sys.lev], by simp [Sys.lev]⟩, by simp [Sys.lev], fun c hc => ?_, fun c hc => ?_, ?_, fun c hc => ?_, fun c hc k r e => ?_⟩
    · obtain ⟨p, hp, rfl⟩ := List.mem_map.mp hc
      exact ⟨hp, by simp, rfl⟩
    · obtain ⟨p, hp, rfl⟩ := List.mem_map.mp hc
      rfl
    · show (S.ps.map fun p => (p, ([] : Row), S.v0 p)).Pairwise Lt
      rw [List.pairwise_map]
      exact List.Pairwise.imp (R := fun a b : ι => a ≠ b) (fun hpq e => absurd e hpq) h.nod
    · rcases hc with ⟨p, hp, rfl⟩ | ⟨d, hd, _⟩
      · exact .inl (List.mem_map.mpr ⟨p, hp, rfl⟩)
      · cases hd
    · simp only [Sys.lev, List.append_nil] at hc
      obtain ⟨p, hp, rfl⟩ := List.mem_map.mp hc
      cases e
  | n + 1 => by
    have L := lev_ok h n
    obtain ⟨k1, k2, k3, k4⟩ := held_fold h (K0 := (S.lev n).kept) (F := (S.lev n).fresh) (bas := (S.lev n).bas) (A := []) (by simpa using L.held) L.ftru L.fsrt (fun c hc d hd e => .inl (by
      have := L.klen d (by simpa using hd)
      rw [L.flen c hc]; exact this))
    have hA : ∀ d ∈ ((S.lev n).fresh.foldl (stepK S.w) ((S.lev n).bas, [])).2, d ∈ (S.lev n).fresh := fun d hd => by
      rcases k4 d hd with h | h
      · cases h
      · exact h
    have hAs : ((S.lev n).fresh.foldl (stepK S.w) ((S.lev n).bas, [])).2.Pairwise Lt := by
      have := k1.srt
      exact (List.pairwise_append.mp this).2.1
    show Lev S (n + 1) (S.step (S.lev n))
    refine ⟨k1, fun c hc => ?_, fun c hc => ?_, fun c hc => ?_, ?_, fun c hc => ?_, fun c hc k r e => ?_⟩
    · rcases List.mem_append.mp hc with hc | hc
      · have := L.klen c hc; omega
      · have := L.flen c (hA c hc); omega
    · refine cand_true h k1.tru ?_
      obtain ⟨d, hd, r⟩ := mem_behind.mp hc
      exact .inr ⟨d, List.mem_append_right _ hd, r⟩
    · obtain ⟨d, hd, p, hp, k, hk, e, rfl⟩ := mem_behind.mp hc
      have := L.flen d (hA d hd)
      simp [this]
    · exact behind_srt h hAs ⟨n, fun c hc => L.flen c (hA c hc)⟩
    · have old : Cand S (S.lev n).kept c → c ∈ (S.step (S.lev n)).fresh ∨ Done S.w (S.step (S.lev n)).kept c := fun hc => by
        rcases L.cand c hc with hf | hd
        · exact .inr (k2 c hf)
        · exact .inr (hd.mono fun d hd => List.mem_append_left _ hd)
      rcases hc with hc | ⟨d, hd, r⟩
      · exact old (.inl hc)
      · rcases List.mem_append.mp hd with hd | hd
        · exact old (.inr ⟨d, hd, r⟩)
        · exact .inl (mem_behind.mpr ⟨d, hd, r⟩)
    · rcases List.mem_append.mp hc with hc | hc
      · obtain ⟨d, hd, p, hp, k', hk, e', rfl⟩ := mem_behind.mp hc
        cases e
        exact ⟨d, List.mem_append_right _ hd, rfl⟩
      · rcases List.mem_append.mp hc with hc | hc
        · obtain ⟨d, hd, e2⟩ := L.tail c (List.mem_append_right _ hc) k r e
          exact ⟨d, List.mem_append_left _ hd, e2⟩
        · obtain ⟨d, hd, e2⟩ := L.tail c (List.mem_append_left _ (hA c hc)) k r e
          exact ⟨d, List.mem_append_left _ hd, e2⟩
/-! ### how many there are -/
theorem count_le : ∀ {ps : List ι} {w : Nat} {l : List (Itm ι)}, (∀ c ∈ l, c.1 ∈ ps) → (∀ p ∈ ps, (l.filter fun c => decide (c.1 = p)).length ≤ w) → l.length ≤ ps.length * w
  | [], w, l, h, _ => by
    cases l with
    | nil => simp
    | cons c l => exact absurd (h c (by simp)) (by simp)
  | p :: ps, w, l, h, hw => by
    have e : l.length = (l.filter fun c => decide (c.1 = p)).length + (l.filter fun c => !decide (c.1 = p)).length := by
      clear h hw
      induction l with
      | nil => rfl
      | cons c l ih => by_cases q : c.1 = p <;> simp [q, ih] <;> omega
    have h1 := hw p (by simp)
    have h2 := count_le (ps := ps) (w := w) (l := l.filter fun c => !decide (c.1 = p)) (fun c hc => by
      simp only [List.mem_filter, Bool.not_eq_true', decide_eq_false_iff_not] at hc
      rcases List.mem_cons.mp (h c hc.1) with q | q
      · exact absurd q hc.2
      · exact q) (fun q hq => by
      refine Nat.le_trans ?_ (hw q (by simp [hq]))
      rw [List.filter_filter]
      refine (List.Sublist.length_le ?_)
      have : (l.filter fun a => decide (a.1 = q) && !decide (a.1 = p)) = (l.filter fun c => decide (c.1 = q)).filter fun a => !decide (a.1 = p) := by
        rw [List.filter_filter]
        congr 1
        funext a
        rw [Bool.and_comm]
      rw [this]
      exact List.filter_sublist)
    rw [List.length_cons, Nat.add_mul]
    omega
theorem sub_len : ∀ {l m : List Nat}, l.Nodup → (∀ x ∈ l, x ∈ m) → l.length ≤ m.length
  | [], m, _, _ => by simp
  | a :: l, m, hn, h => by
    rw [List.nodup_cons] at hn
    have := sub_len (l := l) (m := m.erase a) hn.2 fun x hx => by
      have h1 : x ≠ a := fun e => by subst e; exact hn.1 hx
      exact (List.mem_erase_of_ne h1).mpr (h x (by simp [hx]))
    have h2 := List.length_erase_of_mem (h a (by simp))
    have h3 := List.length_pos_of_mem (h a (by simp))
    simp only [List.length_cons]
    omega
theorem kept_few (h : S.Ok) (n : Nat) : (S.lev n).kept.length ≤ S.ps.length * S.w := by
  have L := lev_ok h n
  refine count_le (fun c hc => (L.held.tru c hc).1) fun p hp => ?_
  rw [← L.held.cnt p]
  exact bok_len (L.held.bok p)
theorem tails {n : Nat} (L : Lev S n (S.lev n)) : ∀ (r : Row), (∃ c ∈ (S.lev n).kept, c.2.1 = r) → ∀ m, m ≤ r.length → m ∈ (S.lev n).kept.map fun c => c.2.1.length
  | [], ⟨c, hc, e⟩, m, hm => List.mem_map.mpr ⟨c, hc, by rw [e]; simp at hm ⊢; omega⟩
  | k :: r, ⟨c, hc, e⟩, m, hm => by
    by_cases q : m = r.length + 1
    · exact List.mem_map.mpr ⟨c, hc, by rw [e]; simpa using q.symm⟩
    · obtain ⟨d, hd, e2⟩ := L.tail c (List.mem_append_right _ hc) k r e
      exact tails L r ⟨d, hd, e2⟩ m (by simp at hm; omega)
theorem row_short (h : S.Ok) {n : Nat} {c : Itm ι} (hc : c ∈ (S.lev n).kept) : c.2.1.length < S.ps.length * S.w := by
  have L := lev_ok h n
  have h1 := sub_len (l := List.range (c.2.1.length + 1)) (m := (S.lev n).kept.map fun c => c.2.1.length) List.nodup_range fun m hm => tails L c.2.1 ⟨c, hc, rfl⟩ m (by simp at hm; omega)
  have h2 := kept_few h n
  simp at h1
  omega
theorem fresh_short (h : S.Ok) (n : Nat) (hn : S.ps.length * S.w < n) : (S.lev n).fresh = [] := by
  have L := lev_ok h n
  cases e : (S.lev n).fresh with
  | nil => rfl
  | cons c r =>
    have hc : c ∈ (S.lev n).fresh := by rw [e]; simp
    have hl := L.flen c hc
    cases q : c.2.1 with
    | nil => rw [q] at hl; simp at hl; omega
    | cons k t =>
      obtain ⟨d, hd, e2⟩ := L.tail c (List.mem_append_left _ hc) k t q
      have := row_short h hd
      rw [q] at hl
      simp at hl
      rw [e2] at this
      omega
/-- what the kept ones that are no later do not part, no row parts -/
theorem kept_all (h : S.Ok) {n : Nat} (hf : (S.lev n).fresh = []) : ∀ (r : Row) {p : ι} {x : V}, p ∈ S.ps → (∀ k ∈ r, k ∈ S.ks) → x.length = S.w → (∀ d ∈ (S.lev n).kept, d.1 = p → rle d.2.1 r → dotQ d.2.2 x = 0) → dotQ (S.at p r) x = 0
  | [], p, x, hp, hr, hx, hk => by
    have L := lev_ok h n
    rcases L.cand (p, [], S.v0 p) (.inl ⟨p, hp, rfl⟩) with q | q
    · rw [hf] at q; cases q
    · exact q x hx hk
  | k :: r, p, x, hp, hr, hx, hk => by
    have L := lev_ok h n
    have hkk := hr k (by simp)
    have hrr : ∀ j ∈ r, j ∈ S.ks := fun j hj => hr j (by simp [hj])
    have hn := h.nxm p hp k hkk
    show dotQ (S.T p k (S.at (S.nx p k) r)) x = 0
    rw [h.adj p hp k hkk _ _ (S.at_len h r hn hrr) hx]
    refine kept_all h hf r hn hrr (h.lp p hp k hkk x hx) fun d hd e hle => ?_
    rw [← h.adj p hp k hkk _ _ ((L.held.tru d hd).len h) hx]
    rcases L.cand (p, k :: d.2.1, S.T p k d.2.2) (.inr ⟨d, hd, p, hp, k, hkk, e.symm, rfl⟩) with q | q
    · rw [hf] at q; cases q
    · exact q x hx fun e' he' e1 hle' => hk e' he' e1 (rle_trans hle' (rle_cons k hle))
/-- a row that parts: one is short -/
theorem short_parts (h : S.Ok) {p : ι} (hp : p ∈ S.ps) {x : V} (hx : x.length = S.w) {r : Row} (hr : ∀ k ∈ r, k ∈ S.ks) (hd : dotQ (S.at p r) x ≠ 0) : ∃ r', (∀ k ∈ r', k ∈ S.ks) ∧ r'.length < S.ps.length * S.w ∧ dotQ (S.at p r') x ≠ 0 ∧ rle r' r := by
  have hf := fresh_short h (S.ps.length * S.w + 1) (Nat.lt_succ_self _)
  have L := lev_ok h (S.ps.length * S.w + 1)
  by_cases q : ∀ d ∈ (S.lev (S.ps.length * S.w + 1)).kept, d.1 = p → rle d.2.1 r → dotQ d.2.2 x = 0
  · exact absurd (kept_all h hf r hp hr hx q) hd
  · simp only [Classical.not_forall] at q
    obtain ⟨d, hdm, e, hle, hne⟩ := q
    have t := L.held.tru d hdm
    refine ⟨d.2.1, t.2.1, row_short h hdm, ?_, hle⟩
    rw [← e, ← t.2.2]
    exact hne
end
end PK
end
section
set_option linter.all false
set_option maxRecDepth 100000
set_option maxHeartbeats 1000000
/-! PkA3: two makes side by side as a system: plain Lean. -/
namespace PK
/-! ### sums -/
theorem dot_append : ∀ {a x : V} (b y : V), a.length = x.length → dotQ (a ++ b) (x ++ y) = dotQ a x + dotQ b y
  | [], [], b, y, _ => by simp [dotQ, Rat.zero_add]
  | [], _ :: _, _, _, h => by simp at h
  | _ :: _, [], _, _, h => by simp at h
  | a :: as, x :: xs, b, y, h => by
    have := dot_append (a := as) (x := xs) b y (by simpa using h)
    simp only [List.cons_append, dotQ, this]
    grind
theorem dot_one (a b : Rat) : dotQ [a] [b] = a * b := by simp [dotQ, Rat.add_zero]
theorem dot_lin {α : Type} (c : Rat) (f g : α → Rat) : ∀ (l : List α) (x : V), dotQ (l.map fun j => c * f j + g j) x = c * dotQ (l.map f) x + dotQ (l.map g) x
  | [], x => by cases x <;> simp [dotQ, Rat.add_zero]
  | j :: l, [] => by simp [dotQ, Rat.add_zero]
  | j :: l, b :: x => by
    have := dot_lin c f g l x
    simp only [List.map_cons, dotQ, this]
    grind
theorem dot_zero {α : Type} : ∀ (l : List α) (x : V), dotQ (l.map fun _ => (0 : Rat)) x = 0
  | [], x => by cases x <;> rfl
  | _ :: l, [] => rfl
  | _ :: l, b :: x => by
    have := dot_zero l x
    simp only [List.map_cons, dotQ, this]
    grind
theorem range_nth : ∀ (r : V), (List.range r.length).map (nth r) = r := by
  intro r
  apply List.ext_getElem
  · simp
  · intro i h1 h2
    simp [nth]
    rw [List.getElem?_eq_getElem h2]
    rfl
/-- a row of columns, summed -/
theorem col_sum {n : Nat} (x : V) : ∀ (v : V) (R : List V), (∀ r ∈ R, r.length = n) → dotQ ((List.range n).map fun j => dotQ v (R.map fun r => nth r j)) x = dotQ v (R.map fun r => dotQ r x)
  | [], R, _ => by
    have e : ∀ l : V, dotQ [] l = 0 := fun l => by cases l <;> rfl
    simp only [e]
    exact dot_zero _ x
  | a :: v, [], _ => by
    simp only [List.map_nil, dotQ]
    exact dot_zero _ x
  | a :: v, r :: R, h => by
    have ih := col_sum x v R fun r hr => h r (by simp [hr])
    have hr : (List.range n).map (nth r) = r := by
      have := range_nth r
      rw [h r (by simp)] at this
      exact this
    simp only [List.map_cons, dotQ]
    rw [dot_lin a (nth r) (fun j => dotQ v (R.map fun r => nth r j)), hr, ih]
theorem dot_take_nil (v : V) : dotQ v [] = 0 := by cases v <;> rfl
/-! ### one make: a vector behind a key, the numbers behind a key -/
def rowsOf (m : Mke) (p k : Nat) : List V := (mvOf m p k).2.map vecF
def bkQ (m : Mke) (p k : Nat) (v : V) : V :=
  ((List.range (mvOf m p k).2.length).map fun j => dotQ (v.take (mvOf m p k).2.length) ((rowsOf m p k).map fun r => nth r j)) ++
    [dotQ (v.take (mvOf m p k).2.length ++ [nth v (mvOf m p k).2.length]) (((rowsOf m p k).map fun r => nth r (mvOf m p k).2.length) ++ [1])]
def prQ (m : Mke) (p k : Nat) (x : V) : V := (mvOf m p k).2.map (fun f => dotQ (vecF f) x) ++ [nth x (mvOf m p k).2.length]
theorem split_last {v : V} {n : Nat} (h : v.length = n + 1) : v = v.take n ++ [nth v n] := by
  have h2 : n < v.length := by omega
  have e : nth v n = v[n] := by simp [nth, List.getElem?_eq_getElem h2]
  rw [e]
  have := List.take_append_drop n v
  rw [List.drop_eq_getElem_cons h2, List.drop_eq_nil_of_le (by omega)] at this
  exact this.symm
theorem nth_append_right {a b : V} {n : Nat} (h : a.length = n) : nth (a ++ b) n = nth b 0 := by
  subst h
  unfold nth
  rw [List.getD_eq_getElem?_getD, List.getD_eq_getElem?_getD, List.getElem?_append_right (Nat.le_refl _), Nat.sub_self]
theorem bk_len (m : Mke) (p k : Nat) (v : V) : (bkQ m p k v).length = (mvOf m p k).2.length + 1 := by simp [bkQ]
theorem pr_len (m : Mke) (p k : Nat) (x : V) : (prQ m p k x).length = (mvOf m p k).2.length + 1 := by simp [prQ]
theorem bk_adj {m : Mke} {size phases count b B : Nat} (h : WF m size phases count b B) {p k : Nat} (hp : p < phases) (hk : GoodK count k) {v x : V} (hv : v.length = size + 1) (hx : x.length = size + 1) : dotQ (bkQ m p k v) x = dotQ v (prQ m p k x) := by
  have h1 := h.nxt _ (h.at_ hp).2 _ (h.mv hp hk).2
  have hl : (mvOf m p k).2.length = size := h1.2.1
  have hR : ∀ r ∈ rowsOf m p k, r.length = size + 1 := by
    intro r hr
    obtain ⟨f, hf, rfl⟩ := List.mem_map.mp hr
    exact vecF_len (h1.2.2 f hf)
  have hRl : (rowsOf m p k).length = size := by simp [rowsOf, hl]
  unfold bkQ prQ
  rw [hl]
  conv => lhs; rw [split_last hx]
  conv => rhs; rw [split_last hv]
  have l1 : (v.take size).length = size := by simp [hv]
  have l2 : (x.take size).length = size := by simp [hx]
  have cs := col_sum (n := size + 1) x (v.take size) (rowsOf m p k) hR
  rw [List.range_succ, List.map_append] at cs
  conv at cs => lhs; rw [split_last hx]
  rw [dot_append _ _ (by simp [l2])] at cs
  rw [dot_append _ _ (by simp [l2]), dot_append _ _ (by simp [l1, hRl]), dot_append (a := v.take size) _ _ (by simp [l1, hl])]
  simp only [List.map_cons, List.map_nil, dot_one] at cs ⊢
  have e : ((mvOf m p k).2.map fun f => dotQ (vecF f) x) = (rowsOf m p k).map fun r => dotQ r x := by simp [rowsOf, List.map_map, Function.comp_def]
  rw [e, ← cs]
  grind
/-! ### the pair -/
section
variable (one other : Mke) (s1 s2 c : Nat)
def pairsL (n m : Nat) : List (Nat × Nat) := (List.range n).flatMap fun p => (List.range m).map fun q => (p, q)
def pairSys : Sys (Nat × Nat) where
  ps := pairsL one.phs.length other.phs.length
  ks := lets c
  nx := fun p k => ((mvOf one p.1 k).1, (mvOf other p.2 k).1)
  T := fun p k v => bkQ one p.1 k (v.take (s1 + 1)) ++ bkQ other p.2 k (v.drop (s1 + 1))
  pr := fun p k x => prQ one p.1 k (x.take (s1 + 1)) ++ prQ other p.2 k (x.drop (s1 + 1))
  v0 := fun p => vecF (phOf one p.1).1 ++ (vecF (phOf other p.2).1).map fun a => -a
  w := s1 + s2 + 2
/-- with one place for what is added -/
def quoSys : Sys (Nat × Nat) where
  ps := pairsL one.phs.length other.phs.length
  ks := lets c
  nx := fun p k => ((mvOf one p.1 k).1, (mvOf other p.2 k).1)
  T := fun p k v => (bkQ one p.1 k (v.take s1 ++ [nth v (s1 + s2)])).take s1 ++ ((bkQ other p.2 k ((v.drop s1).take s2 ++ [0])).take s2 ++ [nth (bkQ one p.1 k (v.take s1 ++ [nth v (s1 + s2)])) s1 + nth (bkQ other p.2 k ((v.drop s1).take s2 ++ [0])) s2])
  pr := fun p k x => (prQ one p.1 k (x.take s1 ++ [nth x (s1 + s2)])).take s1 ++ ((prQ other p.2 k ((x.drop s1).take s2 ++ [nth x (s1 + s2)])).take s2 ++ [nth x (s1 + s2)])
  v0 := fun p => (vecF (phOf one p.1).1).take s1 ++ ((vecF (phOf other p.2).1).take s2 |>.map fun a => -a) ++ [nth (vecF (phOf one p.1).1) s1 - nth (vecF (phOf other p.2).1) s2]
  w := s1 + s2 + 1
end
theorem mem_pairsL {n m : Nat} {p : Nat × Nat} : p ∈ pairsL n m ↔ p.1 < n ∧ p.2 < m := by
  unfold pairsL
  simp only [List.mem_flatMap, List.mem_map, List.mem_range]
  constructor
  · rintro ⟨a, ha, b, hb, rfl⟩; exact ⟨ha, hb⟩
  · rintro ⟨h1, h2⟩; exact ⟨p.1, h1, p.2, h2, rfl⟩
theorem pairsL_nodup (n m : Nat) : (pairsL n m).Nodup := by
  show (pairsL n m).Pairwise (· ≠ ·)
  unfold pairsL
  rw [List.pairwise_flatMap]
  refine ⟨fun p _ => ?_, ?_⟩
  · rw [List.pairwise_map]
    exact List.Pairwise.imp (R := fun a b : Nat => a ≠ b) (fun {a b} h e => by have e2 := congrArg Prod.snd e; exact h e2) (List.nodup_range (n := m))
  · refine List.Pairwise.imp (R := fun a b : Nat => a ≠ b) (fun h x hx y hy e => ?_) (List.nodup_range (n := n))
    obtain ⟨_, _, rfl⟩ := List.mem_map.mp hx
    obtain ⟨_, _, rfl⟩ := List.mem_map.mp hy
    exact h (by simpa using congrArg Prod.fst e)
theorem pairsL_len (n m : Nat) : (pairsL n m).length = n * m := by
  unfold pairsL
  have : ∀ l : List Nat, (l.flatMap fun p => (List.range m).map fun q => (p, q)).length = l.length * m := by
    intro l
    induction l with
    | nil => simp
    | cons a l ih => rw [List.flatMap_cons, List.length_append, ih, List.length_cons, Nat.add_mul]; simp; omega
  rw [this, List.length_range]
theorem lets_lt {c : Nat} (h : c ≤ 5) : (lets c).Pairwise (· < ·) := by
  rcases (by omega : c = 0 ∨ c = 1 ∨ c = 2 ∨ c = 3 ∨ c = 4 ∨ c = 5) with rfl | rfl | rfl | rfl | rfl | rfl <;> decide
section
variable {one other : Mke} {s1 s2 p1 p2 c b1 b2 B1 B2 : Nat}
theorem neg_dot : ∀ (v x : V), dotQ (v.map fun a => -a) x = -dotQ v x
  | [], x => by cases x <;> simp [dotQ]
  | a :: v, [] => by simp [dotQ]
  | a :: v, b :: x => by
    have := neg_dot v x
    simp only [List.map_cons, dotQ, this]
    grind
theorem pair_ok (h1 : WF one s1 p1 c b1 B1) (h2 : WF other s2 p2 c b2 B2) : (pairSys one other s1 s2 c).Ok where
  nxm := fun p hp k hk => by
    have hp := mem_pairsL.mp hp
    have hk := (mem_lets h1.c5).mp hk
    rw [h1.plen, h2.plen] at hp
    refine mem_pairsL.mpr ?_
    rw [h1.plen, h2.plen]
    exact ⟨(h1.nxt _ (h1.at_ hp.1).2 _ (h1.mv hp.1 hk).2).1, (h2.nxt _ (h2.at_ hp.2).2 _ (h2.mv hp.2 hk).2).1⟩
  nod := pairsL_nodup _ _
  kso := lets_lt h1.c5
  l0 := fun p hp => by
    have hp := mem_pairsL.mp hp
    rw [h1.plen, h2.plen] at hp
    show (_ ++ List.map _ _).length = s1 + s2 + 2
    rw [List.length_append, List.length_map, vecF_len (h1.shn _ (h1.at_ hp.1).2), vecF_len (h2.shn _ (h2.at_ hp.2).2)]
    omega
  lT := fun p hp k hk v hv => by
    have hp := mem_pairsL.mp hp
    have hk := (mem_lets h1.c5).mp hk
    rw [h1.plen, h2.plen] at hp
    show (bkQ _ _ _ _ ++ bkQ _ _ _ _).length = s1 + s2 + 2
    rw [List.length_append, bk_len, bk_len, (h1.nxt _ (h1.at_ hp.1).2 _ (h1.mv hp.1 hk).2).2.1, (h2.nxt _ (h2.at_ hp.2).2 _ (h2.mv hp.2 hk).2).2.1]
    omega
  lp := fun p hp k hk v hv => by
    have hp := mem_pairsL.mp hp
    have hk := (mem_lets h1.c5).mp hk
    rw [h1.plen, h2.plen] at hp
    show (prQ _ _ _ _ ++ prQ _ _ _ _).length = s1 + s2 + 2
    rw [List.length_append, pr_len, pr_len, (h1.nxt _ (h1.at_ hp.1).2 _ (h1.mv hp.1 hk).2).2.1, (h2.nxt _ (h2.at_ hp.2).2 _ (h2.mv hp.2 hk).2).2.1]
    omega
  adj := fun p hp k hk v x hv hx => by
    have hp := mem_pairsL.mp hp
    have hk := (mem_lets h1.c5).mp hk
    rw [h1.plen, h2.plen] at hp
    have hv : v.length = s1 + s2 + 2 := hv
    have hx : x.length = s1 + s2 + 2 := hx
    have a1 : (v.take (s1 + 1)).length = s1 + 1 := by simp [hv]; omega
    have a2 : (x.take (s1 + 1)).length = s1 + 1 := by simp [hx]; omega
    have a3 : (v.drop (s1 + 1)).length = s2 + 1 := by simp [hv]; omega
    have a4 : (x.drop (s1 + 1)).length = s2 + 1 := by simp [hx]; omega
    have l1 := (h1.nxt _ (h1.at_ hp.1).2 _ (h1.mv hp.1 hk).2).2.1
    have l2 := (h2.nxt _ (h2.at_ hp.2).2 _ (h2.mv hp.2 hk).2).2.1
    show dotQ (bkQ one p.1 k (v.take (s1 + 1)) ++ bkQ other p.2 k (v.drop (s1 + 1))) x = dotQ v (prQ one p.1 k (x.take (s1 + 1)) ++ prQ other p.2 k (x.drop (s1 + 1)))
    conv => lhs; rw [← List.take_append_drop (s1 + 1) x]
    conv => rhs; rw [← List.take_append_drop (s1 + 1) v]
    rw [dot_append _ _ (by rw [bk_len, l1, a2]), dot_append _ _ (by rw [pr_len, l1, a1]), bk_adj h1 hp.1 hk a1 a2, bk_adj h2 hp.2 hk a3 a4]
/-- a state, with 1 at the end -/
def ext (s : Sta) : V := s.2 ++ [1]
theorem ext_len {size phases C : Nat} {s : Sta} (h : StOk size phases C s) : (ext s).length = size + 1 := by simp [ext, h.len]
theorem pr_ext (m : Mke) {p k : Nat} {s : Sta} (e : s.1 = p) (hl : (mvOf m p k).2.length = s.2.length) : prQ m p k (ext s) = ext (pressF m s k) := by
  subst e
  unfold prQ ext pressF
  rw [hl, nth_append_right rfl]
  rfl
theorem take_app {a b : V} {n : Nat} (h : a.length = n) : (a ++ b).take n = a := by subst h; simp
theorem drop_app {a b : V} {n : Nat} (h : a.length = n) : (a ++ b).drop n = b := by subst h; simp
/-- the difference of what both show behind a row -/
def diffF (one other : Mke) (s t : Sta) (r : Row) : Rat := shownF one (behindF one s r) - shownF other (behindF other t r)
theorem pair_val (h1 : WF one s1 p1 c b1 B1) (h2 : WF other s2 p2 c b2 B2) : ∀ (r : Row) {C1 C2 : Nat} {s t : Sta}, StOk s1 p1 C1 s → StOk s2 p2 C2 t → GoodRow c r → dotQ ((pairSys one other s1 s2 c).at (s.1, t.1) r) (ext s ++ ext t) = diffF one other s t r
  | [], C1, C2, s, t, hs, ht, _ => by
    show dotQ (vecF (phOf one s.1).1 ++ (vecF (phOf other t.1).1).map fun a => -a) (ext s ++ ext t) = _
    rw [dot_append _ _ (by rw [vecF_len (h1.shn _ (h1.at_ hs.ph).2), ext_len hs]), neg_dot]
    show _ = shownF one s - shownF other t
    unfold shownF valF ext
    grind
  | k :: r, C1, C2, s, t, hs, ht, hr => by
    have hk := hr k (by simp)
    have hr' : GoodRow c r := fun j hj => hr j (by simp [hj])
    have l1 := (h1.nxt _ (h1.at_ hs.ph).2 _ (h1.mv hs.ph hk).2).2.1
    have l2 := (h2.nxt _ (h2.at_ ht.ph).2 _ (h2.mv ht.ph hk).2).2.1
    have ok := pair_ok h1 h2
    have hp : (s.1, t.1) ∈ (pairSys one other s1 s2 c).ps := mem_pairsL.mpr (by rw [h1.plen, h2.plen]; exact ⟨hs.ph, ht.ph⟩)
    have hkk : k ∈ (pairSys one other s1 s2 c).ks := (mem_lets h1.c5).mpr hk
    have hrr : ∀ j ∈ r, j ∈ (pairSys one other s1 s2 c).ks := fun j hj => (mem_lets h1.c5).mpr (hr' j hj)
    have hx : (ext s ++ ext t).length = s1 + s2 + 2 := by rw [List.length_append, ext_len hs, ext_len ht]; omega
    show dotQ ((pairSys one other s1 s2 c).T (s.1, t.1) k _) _ = _
    rw [ok.adj _ hp k hkk _ _ ((pairSys one other s1 s2 c).at_len ok r (ok.nxm _ hp k hkk) hrr) hx]
    have e : (pairSys one other s1 s2 c).pr (s.1, t.1) k (ext s ++ ext t) = ext (pressF one s k) ++ ext (pressF other t k) := by
      show prQ one s.1 k ((ext s ++ ext t).take (s1 + 1)) ++ prQ other t.1 k ((ext s ++ ext t).drop (s1 + 1)) = _
      rw [take_app (ext_len hs), drop_app (ext_len hs), pr_ext one rfl (by rw [l1, hs.len]), pr_ext other rfl (by rw [l2, ht.len])]
    rw [e]
    exact pair_val h1 h2 r (press_ok h1 hs hk) (press_ok h2 ht hk) hr'
/-! ### the same with fewer places -/
theorem dot_snoc {a x : V} (b y : Rat) (h : a.length = x.length) : dotQ (a ++ [b]) (x ++ [y]) = dotQ a x + b * y := by
  rw [dot_append _ _ h, dot_one]
theorem quo_split {v : V} (hv : v.length = s1 + s2 + 1) : v = v.take s1 ++ ((v.drop s1).take s2 ++ [nth v (s1 + s2)]) := by
  have h1 := split_last (n := s1 + s2) hv
  have h2 : v.take (s1 + s2) = v.take s1 ++ (v.drop s1).take s2 := by rw [List.take_add]
  rw [h2, List.append_assoc] at h1
  exact h1
theorem quo_ok (h1 : WF one s1 p1 c b1 B1) (h2 : WF other s2 p2 c b2 B2) : (quoSys one other s1 s2 c).Ok where
  nxm := (pair_ok h1 h2).nxm
  nod := pairsL_nodup _ _
  kso := lets_lt h1.c5
  l0 := fun p hp => by
    have hp := mem_pairsL.mp hp
    rw [h1.plen, h2.plen] at hp
    have e1 := vecF_len (h1.shn _ (h1.at_ hp.1).2)
    have e2 := vecF_len (h2.shn _ (h2.at_ hp.2).2)
    show (_ ++ List.map _ _ ++ _).length = s1 + s2 + 1
    simp [e1, e2]
    omega
  lT := fun p hp k hk v hv => by
    have hp := mem_pairsL.mp hp
    have hk := (mem_lets h1.c5).mp hk
    rw [h1.plen, h2.plen] at hp
    have l1 := (h1.nxt _ (h1.at_ hp.1).2 _ (h1.mv hp.1 hk).2).2.1
    have l2 := (h2.nxt _ (h2.at_ hp.2).2 _ (h2.mv hp.2 hk).2).2.1
    show (List.take _ _ ++ (List.take _ _ ++ [_])).length = s1 + s2 + 1
    simp [bk_len, l1, l2]
    omega
  lp := fun p hp k hk v hv => by
    have hp := mem_pairsL.mp hp
    have hk := (mem_lets h1.c5).mp hk
    rw [h1.plen, h2.plen] at hp
    have l1 := (h1.nxt _ (h1.at_ hp.1).2 _ (h1.mv hp.1 hk).2).2.1
    have l2 := (h2.nxt _ (h2.at_ hp.2).2 _ (h2.mv hp.2 hk).2).2.1
    show (List.take _ _ ++ (List.take _ _ ++ [_])).length = s1 + s2 + 1
    simp [pr_len, l1, l2]
    omega
  adj := fun p hp k hk v x hv hx => by
    have hp := mem_pairsL.mp hp
    have hk := (mem_lets h1.c5).mp hk
    rw [h1.plen, h2.plen] at hp
    have hv : v.length = s1 + s2 + 1 := hv
    have hx : x.length = s1 + s2 + 1 := hx
    have l1 := (h1.nxt _ (h1.at_ hp.1).2 _ (h1.mv hp.1 hk).2).2.1
    have l2 := (h2.nxt _ (h2.at_ hp.2).2 _ (h2.mv hp.2 hk).2).2.1
    have a1 : (v.take s1).length = s1 := by simp [hv]; omega
    have a2 : ((v.drop s1).take s2).length = s2 := by simp [hv]; omega
    have a3 : (x.take s1).length = s1 := by simp [hx]; omega
    have a4 : ((x.drop s1).take s2).length = s2 := by simp [hx]; omega
    have b1' : (bkQ one p.1 k (v.take s1 ++ [nth v (s1 + s2)])).length = s1 + 1 := by rw [bk_len, l1]
    have b2' : (bkQ other p.2 k ((v.drop s1).take s2 ++ [0])).length = s2 + 1 := by rw [bk_len, l2]
    have c1 : (prQ one p.1 k (x.take s1 ++ [nth x (s1 + s2)])).length = s1 + 1 := by rw [pr_len, l1]
    have c2 : (prQ other p.2 k ((x.drop s1).take s2 ++ [nth x (s1 + s2)])).length = s2 + 1 := by rw [pr_len, l2]
    have q1 := bk_adj h1 hp.1 hk (v := v.take s1 ++ [nth v (s1 + s2)]) (x := x.take s1 ++ [nth x (s1 + s2)]) (by simp [a1]) (by simp [a3])
    have q2 := bk_adj h2 hp.2 hk (v := (v.drop s1).take s2 ++ [0]) (x := (x.drop s1).take s2 ++ [nth x (s1 + s2)]) (by simp [a2]) (by simp [a4])
    have t1 : nth (prQ one p.1 k (x.take s1 ++ [nth x (s1 + s2)])) s1 = nth x (s1 + s2) := by
      unfold prQ
      rw [nth_append_right (by simp [l1]), l1, nth_append_right a3]
      rfl
    have t2 : nth (prQ other p.2 k ((x.drop s1).take s2 ++ [nth x (s1 + s2)])) s2 = nth x (s1 + s2) := by
      unfold prQ
      rw [nth_append_right (by simp [l2]), l2, nth_append_right a4]
      rfl
    rw [split_last b1', split_last c1, dot_snoc _ _ (by simp [b1', a3]), dot_snoc _ _ (by simp [a1, c1]), t1] at q1
    rw [split_last b2', split_last c2, dot_snoc _ _ (by simp [b2', a4]), dot_snoc _ _ (by simp [a2, c2]), t2] at q2
    show dotQ ((bkQ one p.1 k (v.take s1 ++ [nth v (s1 + s2)])).take s1 ++ ((bkQ other p.2 k ((v.drop s1).take s2 ++ [0])).take s2 ++ [nth (bkQ one p.1 k (v.take s1 ++ [nth v (s1 + s2)])) s1 + nth (bkQ other p.2 k ((v.drop s1).take s2 ++ [0])) s2])) x =
      dotQ v ((prQ one p.1 k (x.take s1 ++ [nth x (s1 + s2)])).take s1 ++ ((prQ other p.2 k ((x.drop s1).take s2 ++ [nth x (s1 + s2)])).take s2 ++ [nth x (s1 + s2)]))
    conv => lhs; rw [quo_split hx]
    conv => rhs; rw [quo_split hv]
    rw [dot_append _ _ (by simp [b1', a3]), dot_snoc _ _ (by simp [b2', a4]), dot_append _ _ (by simp [a1, c1]), dot_snoc _ _ (by simp [a2, c2])]
    grind
theorem quo_val (h1 : WF one s1 p1 c b1 B1) (h2 : WF other s2 p2 c b2 B2) : ∀ (r : Row) {C1 C2 : Nat} {s t : Sta}, StOk s1 p1 C1 s → StOk s2 p2 C2 t → GoodRow c r → dotQ ((quoSys one other s1 s2 c).at (s.1, t.1) r) (s.2 ++ (t.2 ++ [1])) = diffF one other s t r
  | [], C1, C2, s, t, hs, ht, _ => by
    have e1 := vecF_len (h1.shn _ (h1.at_ hs.ph).2)
    have e2 := vecF_len (h2.shn _ (h2.at_ ht.ph).2)
    show dotQ ((vecF (phOf one s.1).1).take s1 ++ ((vecF (phOf other t.1).1).take s2 |>.map fun a => -a) ++ [nth (vecF (phOf one s.1).1) s1 - nth (vecF (phOf other t.1).1) s2]) _ = _
    rw [List.append_assoc, dot_append _ _ (by simp [e1, hs.len]), dot_snoc _ _ (by simp [e2, ht.len]), neg_dot]
    show _ = shownF one s - shownF other t
    unfold shownF valF
    conv => rhs; rw [split_last e1, split_last e2]
    rw [dot_snoc _ _ (by simp [e1, hs.len]), dot_snoc _ _ (by simp [e2, ht.len])]
    grind
  | k :: r, C1, C2, s, t, hs, ht, hr => by
    have hk := hr k (by simp)
    have hr' : GoodRow c r := fun j hj => hr j (by simp [hj])
    have l1 := (h1.nxt _ (h1.at_ hs.ph).2 _ (h1.mv hs.ph hk).2).2.1
    have l2 := (h2.nxt _ (h2.at_ ht.ph).2 _ (h2.mv ht.ph hk).2).2.1
    have ok := quo_ok h1 h2
    have hp : (s.1, t.1) ∈ (quoSys one other s1 s2 c).ps := mem_pairsL.mpr (by rw [h1.plen, h2.plen]; exact ⟨hs.ph, ht.ph⟩)
    have hkk : k ∈ (quoSys one other s1 s2 c).ks := (mem_lets h1.c5).mpr hk
    have hrr : ∀ j ∈ r, j ∈ (quoSys one other s1 s2 c).ks := fun j hj => (mem_lets h1.c5).mpr (hr' j hj)
    have hx : (s.2 ++ (t.2 ++ [1])).length = s1 + s2 + 1 := by simp [hs.len, ht.len]; omega
    show dotQ ((quoSys one other s1 s2 c).T (s.1, t.1) k _) _ = _
    rw [ok.adj _ hp k hkk _ _ ((quoSys one other s1 s2 c).at_len ok r (ok.nxm _ hp k hkk) hrr) hx]
    have n1 : nth (s.2 ++ (t.2 ++ [1])) (s1 + s2) = 1 := by
      rw [← List.append_assoc, nth_append_right (by simp [hs.len, ht.len])]
      rfl
    have e : (quoSys one other s1 s2 c).pr (s.1, t.1) k (s.2 ++ (t.2 ++ [1])) = (pressF one s k).2 ++ ((pressF other t k).2 ++ [1]) := by
      show (prQ one s.1 k ((s.2 ++ (t.2 ++ [1])).take s1 ++ [nth (s.2 ++ (t.2 ++ [1])) (s1 + s2)])).take s1 ++ ((prQ other t.1 k ((((s.2 ++ (t.2 ++ [1])).drop s1).take s2) ++ [nth (s.2 ++ (t.2 ++ [1])) (s1 + s2)])).take s2 ++ [nth (s.2 ++ (t.2 ++ [1])) (s1 + s2)]) = _
      rw [n1, take_app hs.len, drop_app hs.len, take_app ht.len]
      have p1 := pr_ext one (k := k) (s := s) rfl (by rw [l1, hs.len])
      have p2 := pr_ext other (k := k) (s := t) rfl (by rw [l2, ht.len])
      unfold ext at p1 p2
      rw [p1, p2, take_app (by simp [pressF, l1]), take_app (by simp [pressF, l2])]
    rw [e]
    exact quo_val h1 h2 r (press_ok h1 hs hk) (press_ok h2 ht hk) hr'
/-- what the kept ones find: the first row that parts -/
def firstNZ (K : List (Itm (Nat × Nat))) (p : Nat × Nat) (x : V) : Option Row := ((K.filter fun c => decide (c.1 = p)).find? fun c => !decide (dotQ c.2.2 x = 0)).map fun c => c.2.1
/-- the first row that parts two states -/
structure Parts (one other : Mke) (c : Nat) (s t : Sta) (o : Option Row) : Prop where
  none : o = none → ∀ r, GoodRow c r → diffF one other s t r = 0
  some : ∀ r, o = some r → GoodRow c r ∧ diffF one other s t r ≠ 0 ∧ (∀ r', GoodRow c r' → rlt r' r → diffF one other s t r' = 0) ∧ r.length < one.phs.length * other.phs.length * (s1 + s2 + 1)
theorem first_parts (h1 : WF one s1 p1 c b1 B1) (h2 : WF other s2 p2 c b2 B2) {C1 C2 : Nat} {s t : Sta} (hs : StOk s1 p1 C1 s) (ht : StOk s2 p2 C2 t) {n : Nat} (hf : ((pairSys one other s1 s2 c).lev n).fresh = []) :
    Parts (s1 := s1) (s2 := s2) one other c s t (firstNZ ((pairSys one other s1 s2 c).lev n).kept (s.1, t.1) (ext s ++ ext t)) := by
  have ok := pair_ok h1 h2
  have L := lev_ok ok n
  have hp : (s.1, t.1) ∈ (pairSys one other s1 s2 c).ps := mem_pairsL.mpr (by rw [h1.plen, h2.plen]; exact ⟨hs.ph, ht.ph⟩)
  have hx : (ext s ++ ext t).length = (pairSys one other s1 s2 c).w := by show _ = s1 + s2 + 2; rw [List.length_append, ext_len hs, ext_len ht]; omega
  have gk : ∀ {r : Row}, (∀ k ∈ r, k ∈ (pairSys one other s1 s2 c).ks) ↔ GoodRow c r := fun {r} => ⟨fun h k hk => (mem_lets h1.c5).mp (h k hk), fun h k hk => (mem_lets h1.c5).mpr (h k hk)⟩
  have val : ∀ r, GoodRow c r → dotQ ((pairSys one other s1 s2 c).at (s.1, t.1) r) (ext s ++ ext t) = diffF one other s t r := fun r hr => pair_val h1 h2 r hs ht hr
  refine ⟨fun hn r hr => ?_, fun r hr => ?_⟩
  · unfold firstNZ at hn
    rw [Option.map_eq_none_iff, List.find?_eq_none] at hn
    rw [← val r hr]
    refine kept_all ok hf r hp (gk.mpr hr) hx fun d hd e _ => ?_
    have := hn d (List.mem_filter.mpr ⟨hd, by simp [e]⟩)
    simpa using this
  · unfold firstNZ at hr
    obtain ⟨d, hd, rfl⟩ := Option.map_eq_some_iff.mp hr
    obtain ⟨h3, as, bs, h4, h5⟩ := List.find?_eq_some_iff_append.mp hd
    have hm : d ∈ ((pairSys one other s1 s2 c).lev n).kept.filter fun c => decide (c.1 = (s.1, t.1)) := by rw [h4]; simp
    rw [List.mem_filter] at hm
    have e : d.1 = (s.1, t.1) := by simpa using hm.2
    have tr := L.held.tru d hm.1
    have good := gk.mp tr.2.1
    have hne : diffF one other s t d.2.1 ≠ 0 := by
      rw [← val _ good, ← e, ← tr.2.2]
      simpa using h3
    have first : ∀ r', GoodRow c r' → rlt r' d.2.1 → diffF one other s t r' = 0 := fun r' hr' hlt => by
      rw [← val _ hr']
      refine kept_all ok hf r' hp (gk.mpr hr') hx fun d' hd' e' hle => ?_
      have hm' : d' ∈ ((pairSys one other s1 s2 c).lev n).kept.filter fun c => decide (c.1 = (s.1, t.1)) := List.mem_filter.mpr ⟨hd', by simp [e']⟩
      have hs' := (L.held.srt.filter fun c => decide (c.1 = (s.1, t.1)))
      rw [h4] at hm' hs'
      rcases List.mem_append.mp hm' with q | q
      · simpa using h5 d' q
      · rcases List.mem_cons.mp q with q | q
        · subst q
          exact absurd hle (rlt_not hlt)
        · have := (List.pairwise_append.mp hs').2.1
          rw [List.pairwise_cons] at this
          have q2 := this.1 d' q (by rw [e, e'])
          exact absurd (rle_trans (rlt_rle q2) hle) (rlt_not hlt)
    refine ⟨good, hne, first, ?_⟩
    have ok' := quo_ok h1 h2
    obtain ⟨r', g1, g2, g3, _⟩ := short_parts ok' (p := (s.1, t.1)) hp (x := s.2 ++ (t.2 ++ [1])) (by show _ = s1 + s2 + 1; simp [hs.len, ht.len]; omega) (gk.mpr good) (by rw [quo_val h1 h2 _ hs ht good]; exact hne)
    have g1' := gk.mp g1
    rw [quo_val h1 h2 _ hs ht g1'] at g3
    have g2' : r'.length < one.phs.length * other.phs.length * (s1 + s2 + 1) := by
      have : (quoSys one other s1 s2 c).ps.length = one.phs.length * other.phs.length := pairsL_len _ _
      rw [this] at g2
      exact g2
    rcases rle_total d.2.1 r' with q | q
    · rcases q with q | ⟨q, _⟩ <;> omega
    · exact absurd (first r' g1' q) g3
end
end PK
end
section
set_option linter.all false
set_option maxRecDepth 100000
set_option maxHeartbeats 1000000
/-! PkL1: the program's vectors and bases. -/
namespace PK
theorem sem_plus2 (n : Nat) {K L : Nat} {p q : Rat} (hK : K + L < 134000000) (hp : Sz K p) (hq : Sz L q) : tab.sem (n + 3) 29 [frac p, frac q] = .ok (frac (p + q), false, .non) := by
  rw [sem0 tab (n + 2) 29 b_29 _ rfl rfl rfl, ← add_divInt]
  have e := sem_lowest n (p.num * q.den + q.num * p.den) (p.den * q.den) (Int.mul_ne_zero (den_ne p) (den_ne q))
  have m1 : mulOk p.num q.den = true := mulOk_of hp.1 (by simpa using hq.2) hK
  have m2 : mulOk q.num p.den = true := mulOk_of hq.1 (by simpa using hp.2) (by omega)
  have m3 : mulOk p.den q.den = true := mulOk_of (by simpa using hp.2) (by simpa using hq.2) hK
  simp -implicitDefEqProofs [b_29, ix_frac0, ix_frac1, mul_int m1, mul_int m2, mul_int m3, e]
theorem sem_times2 (n : Nat) {K L : Nat} {p q : Rat} (hK : K + L < 134000000) (hp : Sz K p) (hq : Sz L q) : tab.sem (n + 3) 30 [frac p, frac q] = .ok (frac (p * q), false, .non) := by
  rw [sem0 tab (n + 2) 30 b_30 _ rfl rfl rfl, ← mul_divInt]
  have e := sem_lowest n (p.num * q.num) (p.den * q.den) (Int.mul_ne_zero (den_ne p) (den_ne q))
  have m1 : mulOk p.num q.num = true := mulOk_of hp.1 hq.1 hK
  have m3 : mulOk p.den q.den = true := mulOk_of (by simpa using hp.2) (by simpa using hq.2) hK
  simp -implicitDefEqProofs [b_30, ix_frac0, ix_frac1, mul_int m1, mul_int m3, e]
theorem frac_neg (p : Rat) : frac (-p) = .tup [.int (-p.num), .int p.den] := rfl
theorem sem_negative (n : Nat) (p : Rat) : tab.sem (n + 1) 54 [frac p] = .ok (frac (-p), false, .non) := by
  rw [sem0 tab n 54 b_54 _ rfl rfl rfl, frac_neg]
  have l2 : 2 ≤ line := by decide
  simp -implicitDefEqProofs [b_54, ix_frac0, ix_frac1, l2]
theorem Sz.neg {K : Nat} {p : Rat} (h : Sz K p) : Sz K (-p) := ⟨by rw [Rat.neg_num, Int.natAbs_neg]; exact h.1, h.2⟩
theorem Sz.mul {K L : Nat} {p q : Rat} (hp : Sz K p) (hq : Sz L q) : Sz (K + L) (p * q) := by
  refine Sz.of_mul (x := p.num * q.num) (e := p.den * q.den) (Int.mul_ne_zero (den_ne p) (den_ne q)) ?_ (natAbs_mul_lt hp.1 hq.1) (natAbs_mul_lt (by simpa using hp.2) (by simpa using hq.2))
  have := mul_divInt p q
  rw [← this, divInt_mul _ (Int.mul_ne_zero (den_ne p) (den_ne q))]
theorem sem_minus2 (n : Nat) {K L : Nat} {p q : Rat} (hK : K + L < 134000000) (hp : Sz K p) (hq : Sz L q) : tab.sem (n + 4) 55 [frac p, frac q] = .ok (frac (p - q), false, .non) := by
  rw [sem0 tab (n + 3) 55 b_55 _ rfl rfl rfl, Rat.sub_eq_add_neg]
  have e1 := sem_negative (n + 2) q
  have e2 := sem_plus2 n hK hp hq.neg
  simp -implicitDefEqProofs [b_55, e1, e2]
theorem sem_over (n : Nat) {K L : Nat} {p q : Rat} (hK : K + L < 134000000) (hp : Sz K p) (hq : Sz L q) (h0 : q ≠ 0) : tab.sem (n + 3) 56 [frac p, frac q] = .ok (frac (p / q), false, .non) := by
  rw [sem0 tab (n + 2) 56 b_56 _ rfl rfl rfl, ← div_divInt p q h0]
  have hn : q.num ≠ 0 := fun e => h0 (Rat.num_eq_zero.mp e)
  have e := sem_lowest n (p.num * q.den) (p.den * q.num) (Int.mul_ne_zero (den_ne p) hn)
  have m1 : mulOk p.num q.den = true := mulOk_of hp.1 (by simpa using hq.2) hK
  have m3 : mulOk p.den q.num = true := mulOk_of (by simpa using hp.2) hq.1 hK
  simp -implicitDefEqProofs [b_56, ix_frac0, ix_frac1, mul_int m1, mul_int m3, e]
/-! ### bounds below -/
def Bl (M : Nat) (v : V) : Prop := ∃ B, B < M ∧ Bd B v
theorem Bl.sz {M : Nat} {v : V} (h : Bl M v) {q : Rat} (hq : q ∈ v) : Sz M q := by
  obtain ⟨B, hB, hb⟩ := h
  exact (hb.sz hq).mono (by omega)
theorem Bl.mono {M N : Nat} {v : V} (h : Bl M v) (hl : M ≤ N) : Bl N v := by
  obtain ⟨B, hB, hb⟩ := h
  exact ⟨B, by omega, hb⟩
theorem Bl.nth {M : Nat} {v : V} (h : Bl M v) {i : Nat} (hi : i < v.length) : Sz M (nth v i) := by
  refine h.sz ?_
  simp [PK.nth, List.getElem?_eq_getElem hi]
theorem zip_mem {f : Rat → Rat → Rat} : ∀ {v w : V} {q : Rat}, q ∈ List.zipWith f v w → ∃ a b, a ∈ v ∧ b ∈ w ∧ q = f a b
  | [], _, q, h => by simp at h
  | _ :: _, [], q, h => by simp at h
  | a :: v, b :: w, q, h => by
    simp only [List.zipWith_cons_cons, List.mem_cons] at h
    rcases h with rfl | h
    · exact ⟨a, b, by simp, by simp, rfl⟩
    · obtain ⟨a', b', h1, h2, h3⟩ := zip_mem h
      exact ⟨a', b', by simp [h1], by simp [h2], h3⟩
/-- less a multiple: the sum of the bounds -/
theorem less_bl {M N : Nat} {v w : V} (hv : Bl M v) (hw : Bl N w) {p : Nat} (hp : p < v.length) : Bl (M + N) (lessQ v (nth v p) w) := by
  obtain ⟨B, hB, e, he, hbe, hv⟩ := hv
  obtain ⟨C, hC, f, hf, hcf, hw⟩ := hw
  have hM : 1 ≤ N := by omega
  unfold lessQ
  split
  · exact ⟨B, by omega, e, he, hbe, hv⟩
  · refine ⟨B + C + 1, by omega, e * f, Int.mul_ne_zero he hf, lt_up (natAbs_mul_lt hbe hcf) (by omega), fun q hq => ?_⟩
    obtain ⟨a, b, ha, hb, rfl⟩ := zip_mem hq
    obtain ⟨x, hx, hxb⟩ := hv a ha
    obtain ⟨y, hy, hyb⟩ := hw b hb
    obtain ⟨z, hz, hzb⟩ := hv (nth v p) (by simp [nth, List.getElem?_eq_getElem hp])
    refine ⟨x * f + -(z * y), ?_, ?_⟩
    · simp only [cast_add, cast_mul, Rat.intCast_neg, ← hx, ← hy, ← hz]
      grind
    · refine natAbs_lt_of (natAbs_mul_lt hxb hcf) ?_
      rw [Int.natAbs_neg]
      exact natAbs_mul_lt hzb hyb
theorem scaled_bl {M : Nat} {v : V} (hv : Bl M v) {p : Nat} (hp : p < v.length) (h0 : nth v p ≠ 0) : Bl M (scaledQ v p) := by
  obtain ⟨B, hB, e, he, hbe, hv⟩ := hv
  obtain ⟨z, hz, hzb⟩ := hv (nth v p) (by simp [nth, List.getElem?_eq_getElem hp])
  have hz0 : z ≠ 0 := by
    intro h
    subst h
    have : nth v p * (e : Rat) = 0 := by rw [hz]; rfl
    rcases Rat.mul_eq_zero.mp this with h | h
    · exact h0 h
    · exact int_cast_ne he h
  refine ⟨B, hB, z, hz0, hzb, fun q hq => ?_⟩
  obtain ⟨a, ha, rfl⟩ := List.mem_map.mp hq
  obtain ⟨x, hx, hxb⟩ := hv a ha
  refine ⟨x, ?_, hxb⟩
  rw [← hz, ← hx, Rat.div_def]
  have := Rat.mul_inv_cancel _ h0
  grind
/-! ### the program's functions -/
theorem zipD_map {α β : Type} (f : α → D) (g : β → D) : ∀ (xs : List α) (ys : List β), zipD (xs.map f) (ys.map g) = (List.zip xs ys).map fun p => D.tup [f p.1, g p.2]
  | [], ys => by cases ys <;> rfl
  | _ :: _, [] => rfl
  | x :: xs, y :: ys => by
    simp only [List.map_cons, zipD, List.zip_cons_cons]
    rw [zipD_map f g xs ys]
theorem sem_less_times (n : Nat) {M N : Nat} {v w : V} {c : Rat} (hv : ∀ q ∈ v, Sz M q) (hc : Sz M c) (hw : ∀ q ∈ w, Sz N q) (hM : M + (M + N) < 134000000) (hl : v.length ≤ 1000) : tab.sem (n + 5) 57 [.tup (v.map frac), frac c, .tup (w.map frac)] = .ok (.tup ((lessQ v c w).map frac), false, .non) := by
  rw [sem0 tab (n + 4) 57 b_57 _ rfl rfl rfl]
  have e0 := eq_frac c 0
  rw [frac_zero] at e0
  unfold lessQ
  by_cases h0 : c = 0
  · subst h0
    simp -implicitDefEqProofs [b_57, e0]
  · have hcomp := compL_map (e := fun p : Rat × Rat => D.tup [frac p.1, frac p.2]) (g := fun p : Rat × Rat => frac (p.1 - c * p.2)) (vs := [3, 4]) (ft := tF (.tp [.nm 3, .nm 4])) (fi := iF (tab.gl (n + 4)) []) (fe := xF (tab.gl (n + 4)) E57_1)
      (env := [some (.f, .tup (v.map frac)), some (.f, frac c), some (.f, .tup (w.map frac)), none, none]) (xs := List.zip v w) fun p hp => by
        have h1 := hv p.1 (List.of_mem_zip hp).1
        have h2 := hw p.2 (List.of_mem_zip hp).2
        have e1 := sem_times2 (n + 1) (by omega) hc h2
        have e2 := sem_minus2 n hM h1 (hc.mul h2)
        exact ⟨[some (.f, .tup (v.map frac)), some (.f, frac c), some (.f, .tup (w.map frac)), some (.f, frac p.1), some (.f, frac p.2)], [some (.f, .tup (v.map frac)), some (.f, frac c), some (.f, .tup (w.map frac)), some (.f, frac p.1), some (.f, frac p.2)], false, [some (.f, .tup (v.map frac)), some (.f, frac c), some (.f, .tup (w.map frac)), some (.f, frac p.1), some (.f, frac p.2)], by simp, rfl, by simp -implicitDefEqProofs [e1, e2], by simp⟩
    have e3 : (List.zip v w).map (fun p => frac (p.1 - c * p.2)) = (List.zipWith (fun a b => a - c * b) v w).map frac := by
      rw [List.zip, List.map_zipWith, List.map_zipWith]
    rw [e3] at hcomp
    have l1 : (List.zipWith (fun a b => a - c * b) v w).length ≤ line := by
      rw [List.length_zipWith]; simp only [line]; omega
    rw [← zipD_map] at hcomp
    rw [List.length_zipWith] at l1
    simp -implicitDefEqProofs [b_57, e0, h0, hcomp, l1]
theorem at_frac {v : V} {i : Nat} (h : i < v.length) : atZ (v.map frac) (i : Int) = some (frac (nth v i)) := by
  rw [atZ_nat, List.getElem?_map, List.getElem?_eq_getElem h]
  simp [nth, List.getElem?_eq_getElem h]
theorem place_up {v : V} {p : Nat} : ∀ {n j : Nat}, placeQ v n = some p → placeQ v (n + j) = some p
  | n, 0, h => h
  | n, j + 1, h => by
    have := place_up (j := j) h
    rw [← Nat.add_assoc]
    unfold placeQ
    rw [this]
theorem place_loop (n : Nat) {v : V} (p q : Slot) : ∀ (m k : Nat) (x : Slot), k + m ≤ v.length → placeQ v k = none →
    ∃ x', forL (tF (.nm 2)) (bF (tab.gl n) L58_1) (rangeD k m) [some (.f, .tup (v.map frac)), q, x] = match placeQ v (k + m) with
      | some p => .ok (.rt (.int p) false [some (.f, .tup (v.map frac)), q, x'])
      | none => .ok (.nx [some (.f, .tup (v.map frac)), q, x'])
  | 0, k, x, hl, hn => ⟨x, by simp [rangeD, forL, hn]⟩
  | m + 1, k, x, hl, hn => by
    have e0 := ne_frac (nth v k) 0
    rw [frac_zero] at e0
    have ea := at_frac (v := v) (i := k) (by omega)
    by_cases h : nth v k = 0
    · obtain ⟨x', ih⟩ := place_loop n (v := v) p q m (k + 1) (some (.f, .int k)) (by omega) (by unfold placeQ; rw [hn]; simp [h])
      refine ⟨x', ?_⟩
      rw [show k + (m + 1) = k + 1 + m by omega]
      rw [← ih]
      rw [h] at ea e0
      simp -implicitDefEqProofs [rangeD, forL, ea, e0]
    · have hk : placeQ v (k + 1) = some k := by unfold placeQ; rw [hn]; simp [h]
      have := place_up (j := m) hk
      rw [show k + (m + 1) = k + 1 + m by omega, this]
      exact ⟨some (.f, .int k), by simp -implicitDefEqProofs [rangeD, forL, ea, e0, h]⟩
def optN : Option Nat → D
  | some p => .int p
  | none => .non
theorem sem_place_in (n : Nat) {v : V} {w : Nat} (hw : w ≤ v.length) (hl : v.length ≤ 1000) : tab.sem (n + 1) 58 [.tup (v.map frac), .int w] = .ok (optN (placeQ v w), false, .non) := by
  rw [sem0 tab n 58 b_58 _ rfl rfl rfl]
  obtain ⟨x', e⟩ := place_loop n none (some (.f, .int w)) w 0 none (v := v) (by omega) rfl
  rw [Nat.zero_add] at e
  have rk : rngOk (w : Int) = true := by simp [rngOk]; omega
  have e : forL (tF (.nm 2)) (bF (tab.gl n) L58_1) (rangeD 0 w) [some (.f, .tup (v.map frac)), some (.f, .int w), none] = _ := e
  cases h : placeQ v w with
  | some p =>
    rw [h] at e
    simp -implicitDefEqProofs [b_58, rk, e, optN]
  | none =>
    rw [h] at e
    simp -implicitDefEqProofs [b_58, rk, e, optN]
def encR (q : Nat × V) : D := .tup [.int q.1, .tup (q.2.map frac)]
def encB (b : Bas) : D := .lst (b.map encR)
@[simp] theorem asg_encR (i j : Nat) (q : Nat × V) (fr : Bool) (e : Env) : asg (.tp [.nm i, .nm j]) (encR q) fr e = .ok (put (put e i (some (.f, .int q.1))) j (some (.f, .tup (q.2.map frac)))) := rfl
/-- rows' bounds double -/
def BB (M n : Nat) (i : Nat) (b : Bas) : Prop := ∀ j q, b[j]? = some q → Bl (2 ^ (i + j) * M) q.2 ∧ q.2.length = n ∧ q.1 < n
theorem BB.tail {M n i : Nat} {q : Nat × V} {b : Bas} (h : BB M n i (q :: b)) : BB M n (i + 1) b := fun j r hr => by
  have := h (j + 1) r (by simpa using hr)
  rw [show i + (j + 1) = i + 1 + j by omega] at this
  exact this
theorem red_loop (k : Nat) {M n : Nat} (hn : n ≤ 1000) (p q : Slot) : ∀ (b : Bas) (i : Nat) (f : V) (x y : Slot), BB M n i b → Bl (2 ^ i * M) f → f.length = n → 2 ^ (i + b.length) * M ≤ 44000000 →
    Bl (2 ^ (i + b.length) * M) (reducedQ b f) ∧ (reducedQ b f).length = n ∧ ∃ x' y', forL (tF (.tp [(.nm 3), (.nm 4)])) (bF (tab.gl (k + 5)) L59_1) (b.map encR) [p, q, some (.f, .tup (f.map frac)), x, y] = .ok (.nx [p, q, some (.f, .tup ((reducedQ b f).map frac)), x', y'])
  | [], i, f, x, y, hb, hf, hl, hM => ⟨by simpa [reducedQ] using hf, by simpa [reducedQ] using hl, x, y, rfl⟩
  | r :: b, i, f, x, y, hb, hf, hl, hM => by
    obtain ⟨h1, h2, h3⟩ := hb 0 r rfl
    rw [Nat.add_zero] at h1
    have hp : r.1 < f.length := by rw [hl]; exact h3
    have hle : 2 ^ (i + 1) * M ≤ 2 ^ (i + (r :: b).length) * M := Nat.mul_le_mul_right _ (pow_le_pow2 (by simp))
    have h2i : 2 ^ (i + 1) * M = 2 ^ i * M + 2 ^ i * M := by rw [Nat.pow_succ]; rw [Nat.mul_comm (2 ^ i) 2, Nat.mul_assoc]; omega
    have hf2 := less_bl hf h1 hp
    rw [← h2i] at hf2
    have hl2 : (lessQ f (nth f r.1) r.2).length = n := by rw [less_len _ (by rw [hl, h2]), hl]
    have e := sem_less_times k (v := f) (w := r.2) (c := nth f r.1) (M := 2 ^ i * M) (N := 2 ^ i * M) (fun q hq => hf.sz hq) (hf.nth hp) (fun q hq => h1.sz hq) (by omega) (by omega)
    have ea := at_frac hp
    obtain ⟨k1, k2, x', y', ih⟩ := red_loop k hn p q b (i + 1) (lessQ f (nth f r.1) r.2) (some (.f, .int r.1)) (some (.f, .tup (r.2.map frac))) hb.tail hf2 hl2 (by
      rw [show i + 1 + b.length = i + (r :: b).length by simp; omega]; exact hM)
    rw [show i + (r :: b).length = i + 1 + b.length by simp; omega]
    exact ⟨k1, k2, x', y', by simp -implicitDefEqProofs [forL, ea, e]; exact ih⟩
theorem sem_reduced (k : Nat) {M n : Nat} (hn : n ≤ 1000) {b : Bas} {v : V} (hb : BB M n 0 b) (hv : Bl M v) (hl : v.length = n) (hM : 2 ^ b.length * M ≤ 44000000) : tab.sem (k + 6) 59 [encB b, .tup (v.map frac)] = .ok (.tup ((reducedQ b v).map frac), false, .non) := by
  rw [sem0 tab (k + 5) 59 b_59 _ rfl rfl rfl]
  obtain ⟨_, _, x', y', e⟩ := red_loop k hn (some (.f, encB b)) (some (.f, .tup (v.map frac))) b 0 v none none hb (by simpa using hv) hl (by simpa using hM)
  have hi : items (encB b) = .ok (b.map encR) := rfl
  simp -implicitDefEqProofs [b_59, e, hi]
theorem sem_scaled (k : Nat) {M : Nat} {v : V} {p : Nat} (hv : Bl M v) (hM : M + M < 134000000) (hp : p < v.length) (h0 : nth v p ≠ 0) (hl : v.length ≤ 1000) : tab.sem (k + 4) 60 [.tup (v.map frac), .int p] = .ok (.tup ((scaledQ v p).map frac), false, .non) := by
  rw [sem0 tab (k + 3) 60 b_60 _ rfl rfl rfl]
  have ea := at_frac hp
  have hc := comp_map (n := k + 3) (v := 2) (e := frac) (g := fun a => frac (a / nth v p)) (xs := v) (elt := E60_1) (env := [some (.f, .tup (v.map frac)), some (.f, .int p), none])
    (fun a ha => ⟨false, by
      have e := sem_over k hM (hv.sz ha) (hv.nth hp) h0
      simp -implicitDefEqProofs [ea, e]⟩) (fun s => by simp)
  have l1 : v.length ≤ line := by simp only [line]; omega
  have e3 : v.map (fun a => frac (a / nth v p)) = (scaledQ v p).map frac := by simp [scaledQ, List.map_map, Function.comp_def]
  rw [e3] at hc
  simp -implicitDefEqProofs [b_60, hc, scaled_len, l1]
def optB : Option Bas → D
  | some b => encB b
  | none => .non
theorem sem_longer (k : Nat) {M n w : Nat} (hn : n ≤ 1000) (hw : w ≤ n) {b : Bas} {v : V} (hb : BB M n 0 b) (hbl : b.length ≤ 1000) (hv : Bl M v) (hl : v.length = n) (hM : 2 ^ b.length * M ≤ 44000000) :
    tab.sem (k + 7) 61 [encB b, .tup (v.map frac), .int w] = .ok (optB (longerQ b v w), (longerQ b v w).isSome, .non) ∧ ∀ b2, longerQ b v w = some b2 → BB M n 0 b2 := by
  obtain ⟨g1, g2, _⟩ := red_loop k hn none none b 0 v none none hb (by simpa using hv) hl (by simpa using hM)
  rw [Nat.zero_add] at g1
  have e1 := sem_reduced k hn hb hv hl hM
  have e2 := sem_place_in (k + 5) (v := reducedQ b v) (w := w) (by omega) (by omega)
  constructor
  · rw [sem0 tab (k + 6) 61 b_61 _ rfl rfl rfl]
    unfold longerQ
    cases h : placeQ (reducedQ b v) w with
    | none =>
      rw [h] at e2
      have c1 : cmpD .is .non .non = some true := rfl
      simp -implicitDefEqProofs [b_61, e1, e2, optN, c1, optB]
    | some p =>
      rw [h] at e2
      obtain ⟨p1, p2, _⟩ := place_some h
      have e3 := sem_scaled (k + 2) g1 (by omega) (p := p) (by omega) p2 (by omega)
      have c1 : cmpD .is (.int p) .non = some false := rfl
      have l2 : 2 ≤ line := by decide
      have l1 : 1 ≤ line := by decide
      have ad := add_lst (b.map encR) [.tup [.int p, .tup ((scaledQ (reducedQ b v) p).map frac)]] (by simp [line]; omega)
      have ad' : binD .add (encB b) (.lst [.tup [.int p, .tup ((scaledQ (reducedQ b v) p).map frac)]]) = some (.lst (b.map encR ++ [.tup [.int p, .tup ((scaledQ (reducedQ b v) p).map frac)]]), true) := ad
      have eo : optB (some (b ++ [(p, scaledQ (reducedQ b v) p)])) = .lst (b.map encR ++ [.tup [.int p, .tup ((scaledQ (reducedQ b v) p).map frac)]]) := by simp [optB, encB, encR]
      simp only [eo]
      simp -implicitDefEqProofs [b_61, e1, e2, optN, c1, e3, l1, l2, ad']
  · intro b2 e
    unfold longerQ at e
    split at e
    · cases e
    · rename_i p h
      cases e
      obtain ⟨p1, p2, _⟩ := place_some h
      intro j q hq
      by_cases hj : j < b.length
      · rw [List.getElem?_append_left hj] at hq
        exact hb j q hq
      · have hj2 : j = b.length := by
          have := (List.getElem?_eq_some_iff.mp hq).1
          simp at this
          omega
        subst hj2
        rw [List.getElem?_append_right (Nat.le_refl _), Nat.sub_self] at hq
        simp at hq
        subst hq
        rw [Nat.zero_add]
        exact ⟨scaled_bl g1 (by omega) p2, by rw [scaled_len, g2], by simp; omega⟩
end PK
end
section
set_option linter.all false
set_option maxRecDepth 100000
set_option maxHeartbeats 1000000
/-! PkL2: vectors behind keys. -/
namespace PK
theorem sem_dotG (n : Nat) (A1 A2 : List D → D) (h1 : ∀ xs, items (A1 xs) = .ok xs) (h2 : ∀ xs, items (A2 xs) = .ok xs) {B C L : Nat} {as bs : List Rat} (ha : Bd B as) (hb : Bd C bs) (hl : as.length < 2 ^ L) (hK : B + C + L < 67000000) : tab.sem (n + 4) 31 [A1 (as.map frac), A2 (bs.map frac)] = .ok (frac (dotQ as bs), false, .non) := by
  rw [sem0 tab (n + 3) 31 b_31 _ rfl rfl rfl]
  obtain ⟨e, he, hbe, ha⟩ := ha
  obtain ⟨f, hf, hcf, hb⟩ := hb
  obtain ⟨x, y, h⟩ := dot_loop n he hf hbe hcf (Nat.le_refl (B + C + L)) (by omega) (some (.f, A1 (as.map frac))) (some (.f, A2 (bs.map frac))) as bs 0 0 0 none none (by omega) ha hb (by simp) (by simp)
  rw [Rat.zero_add] at h
  rw [frac_zero] at h
  simp -implicitDefEqProofs [-List.map_map, -List.map_take, -List.map_drop, b_31, h, h1, h2]
/-- a comprehension whose names may be frozen on the way -/
theorem comp_inv_map {α : Type} {e g : α → D} {vs : List Nat} {ft : D → Env → Res Env} {fi : Env → Res (Bool × Env)} {fe : Env → Res (DF × Env)} {I : Env → Prop} : ∀ {xs : List α} {env : Env},
    (∀ x ∈ xs, ∀ env, I env → ∃ env1 env2 fr env3, ft (e x) env = .ok env1 ∧ fi env1 = .ok (true, env2) ∧ fe env2 = .ok ((g x, fr), env3) ∧ I (wipeE env3 vs)) → I env →
      ∃ env', compL vs ft fi fe (xs.map e) env = .ok (xs.map g, env') ∧ I env'
  | [], env, h, i => ⟨env, rfl, i⟩
  | x :: xs, env, h, i => by
    obtain ⟨env1, env2, fr, env3, h1, h2, h3, h5⟩ := h x List.mem_cons_self env i
    obtain ⟨env', k1, k2⟩ := comp_inv_map (xs := xs) (fun y hy => h y (List.mem_cons_of_mem _ hy)) h5
    refine ⟨env', ?_, k2⟩
    simp only [List.map_cons, compL, h1, h2, h3, k1, Res.bindE]
section
variable {m : Mke} {size phases count b B d : Nat}
theorem WF.dn (h : WF m size phases count b B) : Dn m b := fun p hp => ⟨(h.shn p hp).dlt, fun v hv f hf => ((h.nxt p hp v hv).2.2 f hf).dlt⟩
/-- a column of a move's forms -/
theorem col_bd (h : WF m size phases count b B) (hd : Dn m d) {p k : Nat} (hp : p < phases) (hk : GoodK count k) (j : Nat) (hj : j < size + 1) : ∀ q ∈ (rowsOf m p k).map fun r => nth r j, ∃ y : Int, q * (prodD (mvOf m p k).2 : Int) = y ∧ y.natAbs < 2 ^ (b + 4 * d) := by
  intro q hq
  have h1 := h.nxt _ (h.at_ hp).2 _ (h.mv hp hk).2
  have h2 := (hd _ (h.at_ hp).2).2 _ (h.mv hp hk).2
  obtain ⟨r, hr, rfl⟩ := List.mem_map.mp hq
  obtain ⟨f, hf, rfl⟩ := List.mem_map.mp hr
  obtain ⟨c, hc, hcb⟩ := prodD_mem h2 hf
  have hm : nth (vecF f) j ∈ vecF f := by
    have : j < (vecF f).length := by rw [vecF_len (h1.2.2 f hf)]; exact hj
    simp [nth, List.getElem?_eq_getElem this]
  obtain ⟨x, hx, hxb⟩ := vecF_e (h1.2.2 f hf) _ hm
  refine ⟨x * c, by rw [hc, cast_mul, cast_mul, ← hx]; grind, ?_⟩
  rw [Int.natAbs_mul, Nat.pow_add]
  have h4 : 2 ^ (d * (mvOf m p k).2.length) ≤ 2 ^ (4 * d) := pow_le_pow2 (by rw [h1.2.1, Nat.mul_comm]; exact Nat.mul_le_mul_right _ h.sz)
  exact Nat.mul_lt_mul_of_lt_of_le hxb (by omega) (Nat.pow_pos (by omega))
theorem prod_bd (h : WF m size phases count b B) (hd : Dn m d) {p k : Nat} (hp : p < phases) (hk : GoodK count k) : prodD (mvOf m p k).2 ≠ 0 ∧ (prodD (mvOf m p k).2).natAbs ≤ 2 ^ (4 * d) := by
  have h1 := h.nxt _ (h.at_ hp).2 _ (h.mv hp hk).2
  have h2 := (hd _ (h.at_ hp).2).2 _ (h.mv hp hk).2
  refine ⟨prodD_ne fun f hf => (h1.2.2 f hf).d0, Nat.le_trans (prodD_le h2) (pow_le_pow2 ?_)⟩
  rw [h1.2.1, Nat.mul_comm]
  exact Nat.mul_le_mul_right _ h.sz
theorem nth_mem {v : V} {i : Nat} (h : i < v.length) : nth v i ∈ v := by simp [nth, List.getElem?_eq_getElem h]
/-- a vector behind a key, over one bottom -/
theorem bk_e (h : WF m size phases count b B) (hd : Dn m d) {p k C : Nat} (hp : p < phases) (hk : GoodK count k) {v : V} {e : Int} (hl : v.length = size + 1) (hv : ∀ q ∈ v, ∃ x : Int, q * e = x ∧ x.natAbs < 2 ^ C) : ∀ q ∈ bkQ m p k v, ∃ z : Int, q * (e * prodD (mvOf m p k).2 : Int) = z ∧ z.natAbs < 2 ^ (C + b + 4 * d + 3) := by
  have h1 := h.nxt _ (h.at_ hp).2 _ (h.mv hp hk).2
  have hs := h.sz
  have lt3 : ∀ {z : Int} {k : Nat}, k ≤ 7 → z.natAbs ≤ k * 2 ^ (C + (b + 4 * d)) → z.natAbs < 2 ^ (C + b + 4 * d + 3) := fun {z k} hk hz => by
    rw [show C + b + 4 * d + 3 = 3 + (C + (b + 4 * d)) by omega, Nat.pow_add]
    exact Nat.lt_of_le_of_lt hz (Nat.mul_lt_mul_of_pos_right (by omega) (Nat.pow_pos (by omega)))
  intro q hq
  unfold bkQ at hq
  rw [h1.2.1] at hq
  rcases List.mem_append.mp hq with hq | hq
  · obtain ⟨j, hj, rfl⟩ := List.mem_map.mp hq
    obtain ⟨z, hz, hzb⟩ := dotQ_bd (L := 0) (C := b + 4 * d) (B := C) (v.take size) ((rowsOf m p k).map fun r => nth r j) (fun q hq => hv q (List.mem_of_mem_take hq)) (col_bd h hd hp hk j (by have := List.mem_range.mp hj; omega))
    exact ⟨z, hz, lt3 (k := (v.take size).length) (by simp; omega) hzb⟩
  · rw [List.mem_singleton.mp hq]
    obtain ⟨z, hz, hzb⟩ := dotQ_bd (L := 0) (C := b + 4 * d) (B := C) (e := e) (f := prodD (mvOf m p k).2) (v.take size ++ [nth v size]) (((rowsOf m p k).map fun r => nth r size) ++ [1]) (fun q hq => by
      rcases List.mem_append.mp hq with hq | hq
      · exact hv q (List.mem_of_mem_take hq)
      · rw [List.mem_singleton.mp hq]; exact hv _ (nth_mem (by omega))) (fun q hq => by
      rcases List.mem_append.mp hq with hq | hq
      · exact col_bd h hd hp hk size (by omega) q hq
      · rw [List.mem_singleton.mp hq]
        refine ⟨prodD (mvOf m p k).2, by rw [Rat.one_mul], ?_⟩
        have := (prod_bd h hd hp hk).2
        have h2 : 2 ^ (4 * d) < 2 ^ (b + 4 * d) := Nat.pow_lt_pow_right (by omega) (by have := h.b1; omega)
        omega)
    exact ⟨z, hz, lt3 (k := (v.take size ++ [nth v size]).length) (by simp; omega) hzb⟩
theorem cut_take {α : Type} (xs : List α) (n : Nat) (h : n ≤ xs.length) : cut xs none (some (n : Int)) = xs.take n := by
  simp only [cut, sIx]
  rw [if_neg (by omega)]
  simp
theorem cut_drop {α : Type} (xs : List α) (n : Nat) (h : n ≤ xs.length) : cut xs (some (n : Int)) none = xs.drop n := by
  simp only [cut, sIx]
  rw [if_neg (by omega)]
  have : min (n : Int).toNat xs.length = n := by simp; omega
  rw [this]
  exact List.take_of_length_le (by simp)
theorem col_map (rows : List V) (j : Nat) : (rows.map fun r => nth r j).map frac = rows.map fun r => frac (nth r j) := by simp [List.map_map, Function.comp_def]
theorem inner_col (n : Nat) {rows : List V} {j w : Nat} (hr : ∀ r ∈ rows, r.length = w) (hj : j < w) (x1 x2 x3 x4 x5 x6 x7 x8 x9 x10 x11 : Slot) : compL [11] (tF (.nm 11)) (iF (tab.gl n) []) (xF (tab.gl n) E63_2) (rows.map fun r => D.tup (r.map frac)) [x1, x2, x3, x4, x5, x6, x7, x8, x9, x11, some (.f, .int j), none] = .ok ((rows.map fun r => nth r j).map frac, [x1, x2, x3, x4, x5, x6, x7, x8, x9, x11, some (.f, .int j), none]) := by
  rw [col_map]
  exact comp_map (n := n) (v := 11) (e := fun r : V => D.tup (r.map frac)) (g := fun r : V => frac (nth r j)) (xs := rows) (elt := E63_2) (env := [x1, x2, x3, x4, x5, x6, x7, x8, x9, x11, some (.f, .int j), none])
    (fun r hr' => ⟨false, by
      have ea := at_frac (v := r) (i := j) (by rw [hr r hr']; exact hj)
      simp -implicitDefEqProofs [-List.map_map, -List.map_take, -List.map_drop, ea]⟩) (fun s => by simp)
theorem inner_col2 (n : Nat) {rows : List V} {j w : Nat} (hr : ∀ r ∈ rows, r.length = w) (hj : j < w) (x1 x2 x3 x4 x5 x6 x8 x9 x10 x11 : Slot) : compL [11] (tF (.nm 11)) (iF (tab.gl n) []) (xF (tab.gl n) E63_4) (rows.map fun r => D.tup (r.map frac)) [x1, x2, x3, x4, x5, x6, some (.f, .int j), x8, x9, x10, x11, none] = .ok ((rows.map fun r => nth r j).map frac, [x1, x2, x3, x4, x5, x6, some (.f, .int j), x8, x9, x10, x11, none]) := by
  rw [col_map]
  exact comp_map (n := n) (v := 11) (e := fun r : V => D.tup (r.map frac)) (g := fun r : V => frac (nth r j)) (xs := rows) (elt := E63_4) (env := [x1, x2, x3, x4, x5, x6, some (.f, .int j), x8, x9, x10, x11, none])
    (fun r hr' => ⟨false, by
      have ea := at_frac (v := r) (i := j) (by rw [hr r hr']; exact hj)
      simp -implicitDefEqProofs [-List.map_map, -List.map_take, -List.map_drop, ea]⟩) (fun s => by simp)
theorem sem_behind_key (n : Nat) (h : WF m size phases count b B) (hd : Dn m d) {p k C : Nat} (hp : p < phases) (hk : GoodK count k) {v : V} (hl : v.length = size + 1) (hv : Bd C v) (hC : C + (b + 4 * d) < 66000000) : tab.sem (n + 5) 63 [encMk m, .int p, .str [k], .tup (v.map frac)] = .ok (.tup ((bkQ m p k v).map frac), false, .non) := by
  rw [sem0 tab (n + 4) 63 b_63 _ rfl rfl rfl]
  have h1 := h.nxt _ (h.at_ hp).2 _ (h.mv hp hk).2
  have hs := h.sz
  have e1 := sem_move_of (n + 3) h hp hk
  have hR : ∀ r ∈ rowsOf m p k, r.length = size + 1 := by
    intro r hr
    obtain ⟨f, hf, rfl⟩ := List.mem_map.mp hr
    exact vecF_len (h1.2.2 f hf)
  have hRl : (rowsOf m p k).length = size := by simp [rowsOf, h1.2.1]
  have c1 := comp_map (n := n + 4) (v := 9) (e := encF) (g := fun f => D.tup ((vecF f).map frac)) (xs := (mvOf m p k).2) (elt := E63_1) (env := [some (.f, encMk m), some (.f, .int p), some (.f, .str [k]), some (.f, .tup (v.map frac)), some (.f, .tup ((mvOf m p k).2.map encF)), none, none, none, none, none, none, none])
    (fun f hf => ⟨false, by
      have e := sem_vector_of (n + 1) size b (by omega) (h1.2.2 f hf)
      simp -implicitDefEqProofs [-List.map_map, -List.map_take, -List.map_drop, e]⟩) (fun s => by simp)
  have er : ((mvOf m p k).2.map fun f => D.tup ((vecF f).map frac)) = (rowsOf m p k).map fun r => D.tup (r.map frac) := by simp [rowsOf, List.map_map, Function.comp_def]
  rw [er] at c1
  have pb := prod_bd h hd hp hk
  have colB : ∀ j, j < size + 1 → Bd (b + 4 * d) ((rowsOf m p k).map fun r => nth r j) := fun j hj => ⟨_, pb.1, Nat.lt_of_le_of_lt pb.2 (Nat.pow_lt_pow_right (by omega) (by have := h.b1; omega)), col_bd h hd hp hk j hj⟩
  have ht : Bd C (v.take size) := hv.sub fun q hq => List.mem_of_mem_take hq
  have lr : (rowsOf m p k).length ≤ line := by rw [hRl]; simp only [line]; omega
  have ct := cut_take (v.map frac) size (by simp; omega)
  rw [← List.map_take] at ct
  obtain ⟨env', c2, kk, hkk, rfl⟩ := comp_inv_map (e := fun j : Nat => D.int (0 + j)) (g := fun j : Nat => frac (dotQ (v.take size) ((rowsOf m p k).map fun r => nth r j))) (vs := [10]) (ft := tF (.nm 10)) (fi := iF (tab.gl (n + 4)) []) (fe := xF (tab.gl (n + 4)) E63_3) (xs := List.range size)
    (I := fun env => ∃ kk : Ow, (kk = .o ∨ kk = .f) ∧ env = [some (.f, encMk m), some (.f, .int p), some (.f, .str [k]), some (.f, .tup (v.map frac)), some (.f, .tup ((mvOf m p k).2.map encF)), some (kk, .lst ((rowsOf m p k).map fun r => D.tup (r.map frac))), some (.f, .int size), none, none, none, none, none])
    (env := [some (.f, encMk m), some (.f, .int p), some (.f, .str [k]), some (.f, .tup (v.map frac)), some (.f, .tup ((mvOf m p k).2.map encF)), some (.o, .lst ((rowsOf m p k).map fun r => D.tup (r.map frac))), some (.f, .int size), none, none, none, none, none])
    (fun j hj env ⟨kk, hkk, he⟩ => by
      subst he
      have hj := List.mem_range.mp hj
      have c3 := inner_col (n + 4) hR (j := j) (by omega) (some (.f, encMk m)) (some (.f, .int p)) (some (.f, .str [k])) (some (.f, .tup (v.map frac))) (some (.f, .tup ((mvOf m p k).2.map encF))) (some (.f, .lst ((rowsOf m p k).map fun r => D.tup (r.map frac)))) (some (.f, .int size)) none none none none
      have e2 := sem_dotG n D.tup D.lst (fun _ => rfl) (fun _ => rfl) ht (colB j (by omega)) (L := 3) (by simp; omega) (by omega)
      refine ⟨[some (.f, encMk m), some (.f, .int p), some (.f, .str [k]), some (.f, .tup (v.map frac)), some (.f, .tup ((mvOf m p k).2.map encF)), some (kk, .lst ((rowsOf m p k).map fun r => D.tup (r.map frac))), some (.f, .int size), none, none, none, some (.f, .int j), none], [some (.f, encMk m), some (.f, .int p), some (.f, .str [k]), some (.f, .tup (v.map frac)), some (.f, .tup ((mvOf m p k).2.map encF)), some (kk, .lst ((rowsOf m p k).map fun r => D.tup (r.map frac))), some (.f, .int size), none, none, none, some (.f, .int j), none], false, [some (.f, encMk m), some (.f, .int p), some (.f, .str [k]), some (.f, .tup (v.map frac)), some (.f, .tup ((mvOf m p k).2.map encF)), some (.f, .lst ((rowsOf m p k).map fun r => D.tup (r.map frac))), some (.f, .int size), none, none, none, some (.f, .int j), none], by simp, rfl, ?_, .f, .inr rfl, rfl⟩
      rcases hkk with rfl | rfl <;> simp -implicitDefEqProofs [-List.map_map, -List.map_take, -List.map_drop, c3, e2, ct, slD, optI, isNo, lr]) ⟨.o, .inl rfl, rfl⟩
  rw [← map_range] at c2
  have c4 := inner_col2 (n + 4) hR (j := size) (by omega) (some (.f, encMk m)) (some (.f, .int p)) (some (.f, .str [k])) (some (.f, .tup (v.map frac))) (some (.f, .tup ((mvOf m p k).2.map encF))) (some (.f, .lst ((rowsOf m p k).map fun r => D.tup (r.map frac)))) (some (.o, .lst ((List.range size).map fun j : Nat => frac (dotQ (v.take size) ((rowsOf m p k).map fun r => nth r j))))) none none none
  have e3 := sem_dotG n D.tup D.lst (fun _ => rfl) (fun _ => rfl) (as := v.take size ++ [nth v size]) (bs := ((rowsOf m p k).map fun r => nth r size) ++ [1]) (hv.sub fun q hq => by
    rcases List.mem_append.mp hq with hq | hq
    · exact List.mem_of_mem_take hq
    · rw [List.mem_singleton.mp hq]; exact nth_mem (by omega)) (colB size (by omega)).one (L := 3) (by simp; omega) (by omega)
  have e4 : ((v.take size ++ [nth v size]).map frac) = (v.take size).map frac ++ [frac (nth v size)] := by simp
  have e5 : (((rowsOf m p k).map fun r => nth r size) ++ [1]).map frac = ((rowsOf m p k).map fun r => nth r size).map frac ++ [D.tup [.int 1, .int 1]] := by simp [frac_one]
  rw [e4, e5] at e3
  have a1 := add_tup ((v.take size).map frac) [frac (nth v size)] (by simp [line]; omega)
  have a2 := add_lst (((rowsOf m p k).map fun r => nth r size).map frac) [D.tup [.int 1, .int 1]] (by simp [line, hRl]; omega)
  have a3 := add_lst ((List.range size).map fun j : Nat => frac (dotQ (v.take size) ((rowsOf m p k).map fun r => nth r j))) [frac (dotQ (v.take size ++ [nth v size]) (((rowsOf m p k).map fun r => nth r size) ++ [1]))] (by simp [line]; omega)
  have ai := at_frac (v := v) (i := size) (by omega)
  have fin : (bkQ m p k v).map frac = ((List.range size).map fun j : Nat => frac (dotQ (v.take size) ((rowsOf m p k).map fun r => nth r j))) ++ [frac (dotQ (v.take size ++ [nth v size]) (((rowsOf m p k).map fun r => nth r size) ++ [1]))] := by
    unfold bkQ
    rw [h1.2.1]
    simp [List.map_map, Function.comp_def]
  rw [fin]
  have rk : rngOk (size : Int) = true := by simp [rngOk]; omega
  have l0 : size ≤ line := by simp only [line]; omega
  have l1 : 1 ≤ line := by decide
  have ml : ((mvOf m p k).2.length : Int) = size := by rw [h1.2.1]
  have mll : (mvOf m p k).2.length ≤ line := by rw [h1.2.1]; exact l0
  rcases hkk with rfl | rfl <;> simp -implicitDefEqProofs [-List.map_map, -List.map_take, -List.map_drop, b_63, e1, c1, c2, c4, e3, a1, a2, a3, ai, ct, slD, optI, isNo, lr, rk, l0, l1, ml, mll]
end
end PK
end
section
set_option linter.all false
set_option maxRecDepth 100000
set_option maxHeartbeats 1000000
/-! PkL3: pairs of phases: vectors behind keys, dicts by pairs. -/
namespace PK
def encP (p : Nat × Nat) : D := .tup [.int p.1, .int p.2]
@[simp] theorem ix_encP0 (p : Nat × Nat) : ixD (encP p) (.int 0) = some (.int p.1) := rfl
@[simp] theorem ix_encP1 (p : Nat × Nat) : ixD (encP p) (.int 1) = some (.int p.2) := rfl
theorem eqD_P (p q : Nat × Nat) : eqD (encP p) (encP q) = decide (p = q) := by
  obtain ⟨a, b⟩ := p
  obtain ⟨c, d⟩ := q
  simp only [encP, eqD, eqDs, Bool.and_true]
  by_cases h : a = c ∧ b = d
  · obtain ⟨rfl, rfl⟩ := h
    simp
  · have h1 : ¬ ((a, b) = (c, d)) := by simpa using h
    rw [decide_eq_false h1]
    by_cases h2 : a = c
    · have h3 : ¬ b = d := fun e => h ⟨h2, e⟩
      have : ((b : Int) == (d : Int)) = false := by simp; omega
      simp [this]
    · have : ((a : Int) == (c : Int)) = false := by simp; omega
      simp [this]
theorem isKey_P (p : Nat × Nat) : isKey (encP p) = true := by simp [isKey, encP, keyB, keysB]
theorem shal_P (n : Nat) (p : Nat × Nat) : shal (n + 1) (encP p) = true := by simp [encP, shal, shals]
theorem eq_P (p q : Nat × Nat) : cmpD .eq (encP p) (encP q) = some (decide (p = q)) := by
  simp [cmpD, shal_P, eqD_P]
theorem getK_P (f : Nat × Nat → D) (p : Nat × Nat) : ∀ {ps : List (Nat × Nat)}, p ∈ ps → getK (ps.map encP) (ps.map f) (encP p) = some (f p)
  | q :: ps, h => by
    simp only [List.map_cons, getK, eqD_P]
    by_cases e : q = p
    · simp [e]
    · have : p ∈ ps := by
        rcases List.mem_cons.mp h with h | h
        · exact absurd h.symm e
        · exact h
      simp [e, getK_P f p this]
def encD (ps : List (Nat × Nat)) (f : Nat × Nat → D) : D := .dct (ps.map encP) (ps.map f)
theorem ix_dct (ps : List (Nat × Nat)) (f : Nat × Nat → D) {p : Nat × Nat} (h : p ∈ ps) : ixD (encD ps f) (encP p) = some (f p) := by
  show (if isKey (encP p) then getK _ _ _ else none) = _
  rw [if_pos (isKey_P p)]
  exact getK_P f p h
theorem putK_new (f : Nat × Nat → D) (p : Nat × Nat) (d : D) : ∀ {ps : List (Nat × Nat)}, p ∉ ps → putK (ps.map encP) (ps.map f) (encP p) d = (ps.map encP ++ [encP p], ps.map f ++ [d])
  | [], _ => rfl
  | q :: ps, h => by
    simp only [List.mem_cons, not_or] at h
    simp only [List.map_cons, putK, eqD_P]
    have e : ¬ q = p := fun e => h.1 e.symm
    simp [e, putK_new f p d h.2]
theorem merge_new (f : Nat × Nat → D) : ∀ (ps qs : List (Nat × Nat)), (qs ++ ps).Nodup → mergeD (ps.map fun p => (encP p, f p)) (qs.map encP, qs.map f) = ((qs ++ ps).map encP, (qs ++ ps).map f)
  | [], qs, _ => by simp [mergeD]
  | p :: ps, qs, h => by
    have hp : p ∉ qs := fun hq => by
      have := (List.nodup_append.mp h).2.2 p hq p (by simp)
      exact this rfl
    simp only [List.map_cons, mergeD, putK_new f p (f p) hp]
    have e : (qs.map encP ++ [encP p], qs.map f ++ [f p]) = ((qs ++ [p]).map encP, (qs ++ [p]).map f) := by simp
    rw [e, merge_new f ps (qs ++ [p]) (by simpa using h)]
    simp
theorem dict_of (f : Nat × Nat → D) {ps : List (Nat × Nat)} (h : ps.Nodup) : biD .dictOf [.lst (ps.map fun p => D.tup [encP p, f p])] = some (encD ps f, false) := by
  have e : ∀ ps : List (Nat × Nat), pairsD (ps.map fun p => D.tup [encP p, f p]) = some (ps.map fun p => (encP p, f p)) := by
    intro ps
    induction ps with
    | nil => rfl
    | cons p ps ih => simp [pairsD, isKey_P, ih]
  have m := merge_new f ps [] (by simpa using h)
  simp only [List.map_nil, List.nil_append] at m
  simp only [biD, e, Option.map_some, m, encD]
section
variable {one other : Mke} {s1 s2 p1 p2 c b B1 B2 d1 d2 : Nat}
theorem pair_bd (h1 : WF one s1 p1 c b B1) (h2 : WF other s2 p2 c b B2) (e1 : Dn one d1) (e2 : Dn other d2) {p : Nat × Nat} (hp1 : p.1 < p1) (hp2 : p.2 < p2) {k C : Nat} (hk : GoodK c k) {v : V} (hl : v.length = s1 + s2 + 2) (hv : Bd C v) : Bd (C + (b + 4 * d1 + 4 * d2 + 3)) ((pairSys one other s1 s2 c).T p k v) := by
  obtain ⟨e, he, hbe, hv⟩ := hv
  have q1 := prod_bd h1 e1 hp1 hk
  have q2 := prod_bd h2 e2 hp2 hk
  have k1 := bk_e h1 e1 hp1 hk (v := v.take (s1 + 1)) (e := e) (C := C) (by simp; omega) (fun q hq => hv q (List.mem_of_mem_take hq))
  have k2 := bk_e h2 e2 hp2 hk (v := v.drop (s1 + 1)) (e := e) (C := C) (by simp; omega) (fun q hq => hv q (List.mem_of_mem_drop hq))
  refine ⟨e * prodD (mvOf one p.1 k).2 * prodD (mvOf other p.2 k).2, Int.mul_ne_zero (Int.mul_ne_zero he q1.1) q2.1, ?_, fun q hq => ?_⟩
  · rw [Int.natAbs_mul, Int.natAbs_mul]
    have : e.natAbs * (prodD (mvOf one p.1 k).2).natAbs * (prodD (mvOf other p.2 k).2).natAbs < 2 ^ C * 2 ^ (4 * d1) * 2 ^ (4 * d2) := by
      refine Nat.mul_lt_mul_of_lt_of_le ?_ q2.2 (Nat.pow_pos (by omega))
      exact Nat.mul_lt_mul_of_lt_of_le hbe q1.2 (Nat.pow_pos (by omega))
    rw [← Nat.pow_add, ← Nat.pow_add] at this
    exact lt_up this (by omega)
  · have hq : q ∈ bkQ one p.1 k (v.take (s1 + 1)) ++ bkQ other p.2 k (v.drop (s1 + 1)) := hq
    rcases List.mem_append.mp hq with hq | hq
    · obtain ⟨z, hz, hzb⟩ := k1 q hq
      refine ⟨z * prodD (mvOf other p.2 k).2, by simp only [cast_mul] at hz ⊢; rw [← hz]; grind, ?_⟩
      rw [Int.natAbs_mul]
      have : z.natAbs * (prodD (mvOf other p.2 k).2).natAbs < 2 ^ (C + b + 4 * d1 + 3) * 2 ^ (4 * d2) := Nat.mul_lt_mul_of_lt_of_le hzb q2.2 (Nat.pow_pos (by omega))
      rw [← Nat.pow_add] at this
      exact lt_up this (by omega)
    · obtain ⟨z, hz, hzb⟩ := k2 q hq
      refine ⟨z * prodD (mvOf one p.1 k).2, by simp only [cast_mul] at hz ⊢; rw [← hz]; grind, ?_⟩
      rw [Int.natAbs_mul]
      have : z.natAbs * (prodD (mvOf one p.1 k).2).natAbs < 2 ^ (C + b + 4 * d2 + 3) * 2 ^ (4 * d1) := Nat.mul_lt_mul_of_lt_of_le hzb q1.2 (Nat.pow_pos (by omega))
      rw [← Nat.pow_add] at this
      exact lt_up this (by omega)
theorem v0_bd (h1 : WF one s1 p1 c b B1) (h2 : WF other s2 p2 c b B2) {p : Nat × Nat} (hp1 : p.1 < p1) (hp2 : p.2 < p2) : Bd (b + b) ((pairSys one other s1 s2 c).v0 p) := by
  have k1 := vecF_bd (h1.shn _ (h1.at_ hp1).2)
  obtain ⟨e, he, hb, hv⟩ := vecF_bd (h2.shn _ (h2.at_ hp2).2)
  refine k1.app ⟨e, he, hb, fun q hq => ?_⟩
  obtain ⟨a, ha, rfl⟩ := List.mem_map.mp hq
  obtain ⟨x, hx, hxb⟩ := hv a ha
  exact ⟨-x, by rw [Rat.intCast_neg, ← hx]; grind, by rwa [Int.natAbs_neg]⟩
theorem sem_pair_behind (n : Nat) (h1 : WF one s1 p1 c b B1) (h2 : WF other s2 p2 c b B2) (e1 : Dn one d1) (e2 : Dn other d2) {p : Nat × Nat} (hp1 : p.1 < p1) (hp2 : p.2 < p2) {k C : Nat} (hk : GoodK c k) {v : V} (hl : v.length = s1 + s2 + 2) (hv : Bd C v) (hC : C + (b + 4 * d1 + 4 * d2) < 66000000) :
    tab.sem (n + 6) 64 [encMk one, encMk other, encP p, .str [k], .tup (v.map frac)] = .ok (.tup (((pairSys one other s1 s2 c).T p k v).map frac), false, .non) := by
  rw [sem0 tab (n + 5) 64 b_64 _ rfl rfl rfl]
  have q1 := sem_behind_key n h1 e1 hp1 hk (v := v.take (s1 + 1)) (C := C) (by simp; omega) (hv.sub fun q hq => List.mem_of_mem_take hq) (by omega)
  have q2 := sem_behind_key n h2 e2 hp2 hk (v := v.drop (s1 + 1)) (C := C) (by simp; omega) (hv.sub fun q hq => List.mem_of_mem_drop hq) (by omega)
  have ct := cut_take (v.map frac) (s1 + 1) (by simp; omega)
  have cd := cut_drop (v.map frac) (s1 + 1) (by simp; omega)
  rw [← List.map_take] at ct
  rw [← List.map_drop] at cd
  have hs1 := h1.sz
  have hs2 := h2.sz
  have l1 := (h1.nxt _ (h1.at_ hp1).2 _ (h1.mv hp1 hk).2).2.1
  have l2 := (h2.nxt _ (h2.at_ hp2).2 _ (h2.mv hp2 hk).2).2.1
  have a1 := add_tup ((bkQ one p.1 k (v.take (s1 + 1))).map frac) ((bkQ other p.2 k (v.drop (s1 + 1))).map frac) (by simp [line, bk_len, l1, l2]; omega)
  have e3 : ((pairSys one other s1 s2 c).T p k v).map frac = (bkQ one p.1 k (v.take (s1 + 1))).map frac ++ (bkQ other p.2 k (v.drop (s1 + 1))).map frac := by
    show List.map frac (_ ++ _) = _
    rw [List.map_append]
  rw [e3]
  have vl : ((one.vals.length : Int) + 1) = ((s1 + 1 : Nat) : Int) := by rw [h1.vlen]; omega
  simp -implicitDefEqProofs [-List.map_map, -List.map_take, -List.map_drop, -Int.natCast_add, b_64, q1, q2, ct, cd, a1, slD, optI, isNo, vl]
theorem sem_next_pair (n : Nat) (h1 : WF one s1 p1 c b B1) (h2 : WF other s2 p2 c b B2) {p : Nat × Nat} (hp1 : p.1 < p1) (hp2 : p.2 < p2) {k : Nat} (hk : GoodK c k) : tab.sem (n + 3) 65 [encMk one, encMk other, encP p, .str [k]] = .ok (encP ((pairSys one other s1 s2 c).nx p k), false, .non) := by
  rw [sem0 tab (n + 2) 65 b_65 _ rfl rfl rfl]
  have e1 := sem_letters n h1
  have hi : mtD .index (.str (lets c)) [.str [k]] = some (.int ((k - 97 : Nat) : Int), false) := by
    have h5 := h1.c5
    have h6 : idxD k (lets c) 0 = some (k - 97) := by
      obtain ⟨g1, g2⟩ := hk
      rcases (by omega : c = 1 ∨ c = 2 ∨ c = 3 ∨ c = 4 ∨ c = 5 ∨ c = 0) with rfl | rfl | rfl | rfl | rfl | rfl <;>
        (rcases (by omega : k = 97 ∨ k = 98 ∨ k = 99 ∨ k = 100 ∨ k = 101) with rfl | rfl | rfl | rfl | rfl <;> first | rfl | omega)
    show (idxD k (lets c) 0).map _ = _
    rw [h6]
    rfl
  have a1 := ph_at h1 hp1
  have a2 := ph_at h2 hp2
  have a3 := mv_at h1 hp1 hk
  have a4 := mv_at h2 hp2 hk
  have l2 : 2 ≤ line := by decide
  have e2 : encP ((pairSys one other s1 s2 c).nx p k) = .tup [.int (mvOf one p.1 k).1, .int (mvOf other p.2 k).1] := rfl
  rw [e2]
  simp -implicitDefEqProofs [b_65, e1, hi, knd, a1, a2, a3, a4, l2]
theorem sem_shown_vector (n : Nat) (h1 : WF one s1 p1 c b B1) (h2 : WF other s2 p2 c b B2) {p : Nat × Nat} (hp1 : p.1 < p1) (hp2 : p.2 < p2) : tab.sem (n + 4) 66 [encMk one, encMk other, encP p] = .ok (.tup (((pairSys one other s1 s2 c).v0 p).map frac), false, .non) := by
  rw [sem0 tab (n + 3) 66 b_66 _ rfl rfl rfl]
  have hs1 := h1.sz
  have hs2 := h2.sz
  have a1 := ph_at h1 hp1
  have a2 := ph_at h2 hp2
  have q1 := sem_vector_of n s1 b (by omega) (h1.shn _ (h1.at_ hp1).2)
  have q2 := sem_vector_of n s2 b (by omega) (h2.shn _ (h2.at_ hp2).2)
  have l1 := vecF_len (h1.shn _ (h1.at_ hp1).2)
  have l2 := vecF_len (h2.shn _ (h2.at_ hp2).2)
  have hc := comp_map (n := n + 3) (v := 4) (e := frac) (g := fun a => frac (-a)) (xs := vecF (phOf other p.2).1) (elt := E66_1) (env := [some (.f, encMk one), some (.f, encMk other), some (.f, encP p), some (.f, .tup ((vecF (phOf other p.2).1).map frac)), none])
    (fun a ha => ⟨false, by
      have e := sem_negative (n + 2) a
      simp -implicitDefEqProofs [e]⟩) (fun s => by simp)
  have ad := add_tup ((vecF (phOf one p.1).1).map frac) ((vecF (phOf other p.2).1).map fun a => frac (-a)) (by simp [line, l1, l2]; omega)
  have e3 : ((pairSys one other s1 s2 c).v0 p).map frac = (vecF (phOf one p.1).1).map frac ++ (vecF (phOf other p.2).1).map fun a => frac (-a) := by
    show List.map frac (_ ++ List.map _ _) = _
    simp [List.map_map, Function.comp_def]
  rw [e3]
  have ll : (vecF (phOf other p.2).1).length ≤ line := by rw [l2]; simp only [line]; omega
  simp -implicitDefEqProofs [-List.map_map, b_66, a1, a2, q1, q2, hc, ad, ll]
end
end PK
end
section
set_option linter.all false
set_option maxRecDepth 100000
set_option maxHeartbeats 1000000
/-! PkL4: kept rows of pairs of phases. -/
namespace PK
/-- a loop, its state told beside the names -/
theorem forL_rel {α β : Type} {e : α → D} {ft : D → Env → Res Env} {fb : Env → Res Out} (R : Nat → β → Env → Prop) (st : β → α → β) : ∀ {xs : List α} {i : Nat} {b : β} {env : Env},
    (∀ x ∈ xs, ∀ j b env, i ≤ j → j < i + xs.length → R j b env → ∃ env1 env2, ft (e x) env = .ok env1 ∧ fb env1 = .ok (.nx env2) ∧ R (j + 1) (st b x) env2) → R i b env → ∃ env', forL ft fb (xs.map e) env = .ok (.nx env') ∧ R (i + xs.length) (xs.foldl st b) env'
  | [], i, b, env, h, r => ⟨env, rfl, r⟩
  | x :: xs, i, b, env, h, r => by
    obtain ⟨env1, env2, h1, h2, h3⟩ := h x List.mem_cons_self i b env (Nat.le_refl _) (by simp) r
    obtain ⟨env', k1, k2⟩ := forL_rel (xs := xs) (i := i + 1) R st (fun y hy j b env hj hj2 hr => h y (List.mem_cons_of_mem _ hy) j b env (by omega) (by simp; omega) hr) h3
    refine ⟨env', by simp only [List.map_cons, forL, h1, h2, k1, Res.bindE], ?_⟩
    rw [show i + (x :: xs).length = i + 1 + xs.length by simp; omega]
    exact k2
theorem foldl_flat {α β : Type} (f : α → List β) : ∀ (xs : List α) (acc : List β), xs.foldl (fun acc x => acc ++ f x) acc = acc ++ xs.flatMap f
  | [], acc => by simp
  | x :: xs, acc => by
    rw [List.foldl_cons, foldl_flat f xs]
    simp
theorem foldl_filt {α β : Type} (p : α → Bool) (g : α → β) : ∀ (xs : List α) (acc : List β), xs.foldl (fun acc x => if p x = true then acc ++ [g x] else acc) acc = acc ++ (xs.filter p).map g
  | [], acc => by simp
  | x :: xs, acc => by
    rw [List.foldl_cons, foldl_filt p g xs]
    by_cases h : p x = true <;> simp [h]
def encI (c : Itm (Nat × Nat)) : D := .tup [encP c.1, .str c.2.1, .tup (c.2.2.map frac)]
@[simp] theorem asg_encI (i j k : Nat) (c : Itm (Nat × Nat)) (fr : Bool) (e : Env) : asg (.tp [.nm i, .nm j, .nm k]) (encI c) fr e = .ok (put (put (put e i (some (.f, encP c.1))) j (some (.f, .str c.2.1))) k (some (.f, .tup (c.2.2.map frac)))) := rfl
section
variable {one other : Mke} {s1 s2 p1 p2 c b B1 B2 d1 d2 : Nat}
theorem inner68 (n : Nat) (h1 : WF one s1 p1 c b B1) (h2 : WF other s2 p2 c b B2) (e1 : Dn one d1) (e2 : Dn other d2) {C : Nat} (hC : C + (b + 4 * d1 + 4 * d2) < 66000000) {p : Nat × Nat} (hp1 : p.1 < p1) (hp2 : p.2 < p2) {k : Nat} (hk : GoodK c k) (th : Nat × Nat) (x2 x3 : Slot) {added : List (Itm (Nat × Nat))}
    (ha : ∀ i ∈ added, i.2.2.length = s1 + s2 + 2 ∧ Bd C i.2.2 ∧ i.2.1.length ≤ 1000) (acc : List (Itm (Nat × Nat))) (hl : acc.length + added.length ≤ 1000000) (y8 y9 y10 : Slot) :
    ∃ z8 z9 z10, forL (tF (.tp [(.nm 8), (.nm 9), (.nm 10)])) (bF (tab.gl (n + 6)) L68_1) (added.map encI) [some (.f, encMk one), some (.f, encMk other), x2, x3, some (.o, .lst (acc.map encI)), some (.f, encP p), some (.f, .str [k]), some (.f, encP th), y8, y9, y10] =
      .ok (.nx [some (.f, encMk one), some (.f, encMk other), x2, x3, some (.o, .lst ((acc ++ (added.filter fun i => decide (i.1 = th)).map fun i => (p, k :: i.2.1, (pairSys one other s1 s2 c).T p k i.2.2)).map encI)), some (.f, encP p), some (.f, .str [k]), some (.f, encP th), z8, z9, z10]) := by
  obtain ⟨env', e, hlen, z8, z9, z10, rfl⟩ := forL_rel (ft := tF (.tp [(.nm 8), (.nm 9), (.nm 10)])) (fb := bF (tab.gl (n + 6)) L68_1) (e := encI) (xs := added) (i := acc.length) (b := acc)
    (fun j (a : List (Itm (Nat × Nat))) env => a.length ≤ j ∧ ∃ z8 z9 z10, env = [some (.f, encMk one), some (.f, encMk other), x2, x3, some (.o, .lst (a.map encI)), some (.f, encP p), some (.f, .str [k]), some (.f, encP th), z8, z9, z10])
    (fun a i => if decide (i.1 = th) = true then a ++ [(p, k :: i.2.1, (pairSys one other s1 s2 c).T p k i.2.2)] else a)
    (fun i hi j a env hj hj2 ⟨hal, z8, z9, z10, he⟩ => by
      subst he
      obtain ⟨g1, g2, g3⟩ := ha i hi
      have eq := eq_P i.1 th
      by_cases h : i.1 = th
      · have q := sem_pair_behind n h1 h2 e1 e2 hp1 hp2 hk g1 g2 hC
        have l3 : 3 ≤ line := by decide
        have l1 : 1 ≤ line := by decide
        have as := add_str [k] i.2.1 (by simp [line]; omega)
        have al := add_lst (a.map encI) [encI (p, k :: i.2.1, (pairSys one other s1 s2 c).T p k i.2.2)] (by simp [line]; omega)
        simp only [encI, List.singleton_append] at al as
        refine ⟨_, [some (.f, encMk one), some (.f, encMk other), x2, x3, some (.o, .lst ((a ++ [(p, k :: i.2.1, (pairSys one other s1 s2 c).T p k i.2.2)]).map encI)), some (.f, encP p), some (.f, .str [k]), some (.f, encP th), some (.f, encP i.1), some (.f, .str i.2.1), some (.f, .tup (i.2.2.map frac))], rfl, ?_, by simp [h]; omega, some (.f, encP i.1), some (.f, .str i.2.1), some (.f, .tup (i.2.2.map frac)), by rw [if_pos (by simpa using h)]⟩
        rw [h] at eq
        simp -implicitDefEqProofs [encI, h, eq, q, l3, l1, as, al]
      · refine ⟨_, [some (.f, encMk one), some (.f, encMk other), x2, x3, some (.o, .lst (a.map encI)), some (.f, encP p), some (.f, .str [k]), some (.f, encP th), some (.f, encP i.1), some (.f, .str i.2.1), some (.f, .tup (i.2.2.map frac))], rfl, ?_, by simp [h]; omega, some (.f, encP i.1), some (.f, .str i.2.1), some (.f, .tup (i.2.2.map frac)), by rw [if_neg (by simpa using h)]⟩
        simp -implicitDefEqProofs [encI, h, eq]) ⟨Nat.le_refl _, y8, y9, y10, rfl⟩
  rw [foldl_filt] at e
  exact ⟨z8, z9, z10, e⟩
theorem flat_len {α β : Type} (f : α → List β) (k : Nat) : ∀ (xs : List α), (∀ x ∈ xs, (f x).length ≤ k) → (xs.flatMap f).length ≤ xs.length * k
  | [], _ => by simp
  | x :: xs, h => by
    have h1 := h x (by simp)
    have h2 := flat_len f k xs fun y hy => h y (by simp [hy])
    rw [List.flatMap_cons, List.length_append, List.length_cons, Nat.add_mul]
    omega
/-- the items behind one pair of phases, a key -/
def one68 (S : Sys (Nat × Nat)) (added : List (Itm (Nat × Nat))) (p : Nat × Nat) (k : Nat) : List (Itm (Nat × Nat)) := (added.filter fun i => decide (i.1 = S.nx p k)).map fun i => (p, k :: i.2.1, S.T p k i.2.2)
theorem one68_len (S : Sys (Nat × Nat)) (added : List (Itm (Nat × Nat))) (p : Nat × Nat) (k : Nat) : (one68 S added p k).length ≤ added.length := by
  unfold one68
  rw [List.length_map]
  exact List.length_filter_le _ _
theorem mid68 (n : Nat) (h1 : WF one s1 p1 c b B1) (h2 : WF other s2 p2 c b B2) (e1 : Dn one d1) (e2 : Dn other d2) {C : Nat} (hC : C + (b + 4 * d1 + 4 * d2) < 66000000) {p : Nat × Nat} (hp1 : p.1 < p1) (hp2 : p.2 < p2) (x2 : Slot) {added : List (Itm (Nat × Nat))}
    (ha : ∀ i ∈ added, i.2.2.length = s1 + s2 + 2 ∧ Bd C i.2.2 ∧ i.2.1.length ≤ 1000) (hal : added.length ≤ 1000) (acc : List (Itm (Nat × Nat))) (hl : acc.length ≤ 900000) (y6 y7 y8 y9 y10 : Slot) :
    ∃ z6 z7 z8 z9 z10, forL (tF (.nm 6)) (bF (tab.gl (n + 6)) L68_2) ((lets c).map fun k => D.str [k]) [some (.f, encMk one), some (.f, encMk other), x2, some (.f, .lst (added.map encI)), some (.o, .lst (acc.map encI)), some (.f, encP p), y6, y7, y8, y9, y10] =
      .ok (.nx [some (.f, encMk one), some (.f, encMk other), x2, some (.f, .lst (added.map encI)), some (.o, .lst ((acc ++ (lets c).flatMap (one68 (pairSys one other s1 s2 c) added p)).map encI)), some (.f, encP p), z6, z7, z8, z9, z10]) := by
  have hc5 := h1.c5
  obtain ⟨env', e, hlen, z6, z7, z8, z9, z10, rfl⟩ := forL_rel (ft := tF (.nm 6)) (fb := bF (tab.gl (n + 6)) L68_2) (e := fun k : Nat => D.str [k]) (xs := lets c) (i := 0) (b := acc)
    (fun j (a : List (Itm (Nat × Nat))) env => a.length ≤ 900000 + j * 1000 ∧ ∃ z6 z7 z8 z9 z10, env = [some (.f, encMk one), some (.f, encMk other), x2, some (.f, .lst (added.map encI)), some (.o, .lst (a.map encI)), some (.f, encP p), z6, z7, z8, z9, z10])
    (fun a k => a ++ one68 (pairSys one other s1 s2 c) added p k)
    (fun k hk j a env hj hj2 ⟨hal2, z6, z7, z8, z9, z10, he⟩ => by
      subst he
      have hk' := (mem_lets hc5).mp hk
      have hll : (lets c).length ≤ 5 := by simp [lets]; omega
      have q := sem_next_pair (n + 3) h1 h2 hp1 hp2 hk'
      obtain ⟨w8, w9, w10, qi⟩ := inner68 n h1 h2 e1 e2 hC hp1 hp2 hk' ((pairSys one other s1 s2 c).nx p k) x2 (some (.f, .lst (added.map encI))) ha a (by omega) z8 z9 z10
      have ol := one68_len (pairSys one other s1 s2 c) added p k
      refine ⟨[some (.f, encMk one), some (.f, encMk other), x2, some (.f, .lst (added.map encI)), some (.o, .lst (a.map encI)), some (.f, encP p), some (.f, .str [k]), z7, z8, z9, z10], _, by simp, ?_, by rw [List.length_append]; omega, some (.f, .str [k]), some (.f, encP ((pairSys one other s1 s2 c).nx p k)), w8, w9, w10, rfl⟩
      have qi' : forL (tF (.tp [(.nm 8), (.nm 9), (.nm 10)])) (bF (tab.gl (n + 6)) L68_1) (added.map encI) [some (.f, encMk one), some (.f, encMk other), x2, some (.f, .lst (added.map encI)), some (.o, .lst (a.map encI)), some (.f, encP p), some (.f, .str [k]), some (.f, encP ((pairSys one other s1 s2 c).nx p k)), z8, z9, z10] = .ok (.nx [some (.f, encMk one), some (.f, encMk other), x2, some (.f, .lst (added.map encI)), some (.o, .lst ((a ++ one68 (pairSys one other s1 s2 c) added p k).map encI)), some (.f, encP p), some (.f, .str [k]), some (.f, encP ((pairSys one other s1 s2 c).nx p k)), w8, w9, w10]) := qi
      simp -implicitDefEqProofs [-List.map_append, q, qi']) ⟨by omega, y6, y7, y8, y9, y10, rfl⟩
  rw [foldl_flat] at e
  exact ⟨z6, z7, z8, z9, z10, e⟩
theorem sem_behind_all (n : Nat) (h1 : WF one s1 p1 c b B1) (h2 : WF other s2 p2 c b B2) (e1 : Dn one d1) (e2 : Dn other d2) {C : Nat} (hC : C + (b + 4 * d1 + 4 * d2) < 66000000) {added : List (Itm (Nat × Nat))}
    (ha : ∀ i ∈ added, i.2.2.length = s1 + s2 + 2 ∧ Bd C i.2.2 ∧ i.2.1.length ≤ 1000) (hal : added.length ≤ 1000) :
    tab.sem (n + 7) 68 [encMk one, encMk other, .lst ((pairsL p1 p2).map encP), .lst (added.map encI)] = .ok (.lst (((pairSys one other s1 s2 c).behind added).map encI), true, .non) := by
  rw [sem0 tab (n + 6) 68 b_68 _ rfl rfl rfl]
  have hc5 := h1.c5
  have hp5 := h1.p5
  have hq5 := h2.p5
  have hpl : (pairsL p1 p2).length ≤ 25 := by
    rw [pairsL_len]
    have := Nat.mul_le_mul hp5 hq5
    omega
  have hll : (lets c).length ≤ 5 := by simp [lets]; omega
  obtain ⟨env', e, hlen, z5, z6, z7, z8, z9, z10, rfl⟩ := forL_rel (ft := tF (.nm 5)) (fb := bF (tab.gl (n + 6)) L68_3) (e := encP) (xs := pairsL p1 p2) (i := 0) (b := ([] : List (Itm (Nat × Nat)))) (env := [some (.f, encMk one), some (.f, encMk other), some (.f, .lst ((pairsL p1 p2).map encP)), some (.f, .lst (added.map encI)), some (.o, .lst []), none, none, none, none, none, none])
    (fun j (a : List (Itm (Nat × Nat))) env => a.length ≤ j * 5000 ∧ ∃ z5 z6 z7 z8 z9 z10, env = [some (.f, encMk one), some (.f, encMk other), some (.f, .lst ((pairsL p1 p2).map encP)), some (.f, .lst (added.map encI)), some (.o, .lst (a.map encI)), z5, z6, z7, z8, z9, z10])
    (fun a p => a ++ (lets c).flatMap (one68 (pairSys one other s1 s2 c) added p))
    (fun p hp j a env hj hj2 ⟨hal2, z5, z6, z7, z8, z9, z10, he⟩ => by
      subst he
      obtain ⟨hp1, hp2⟩ := mem_pairsL.mp hp
      have q := sem_letters (n + 4) h1
      obtain ⟨w6, w7, w8, w9, w10, qi⟩ := mid68 n h1 h2 e1 e2 hC hp1 hp2 (some (.f, .lst ((pairsL p1 p2).map encP))) ha hal a (by omega) z6 z7 z8 z9 z10
      have fl := flat_len (one68 (pairSys one other s1 s2 c) added p) 1000 (lets c) fun k _ => Nat.le_trans (one68_len _ _ _ _) hal
      refine ⟨[some (.f, encMk one), some (.f, encMk other), some (.f, .lst ((pairsL p1 p2).map encP)), some (.f, .lst (added.map encI)), some (.o, .lst (a.map encI)), some (.f, encP p), z6, z7, z8, z9, z10], _, by simp, ?_, by rw [List.length_append]; have := Nat.mul_le_mul_right 1000 hll; omega, some (.f, encP p), w6, w7, w8, w9, w10, rfl⟩
      simp -implicitDefEqProofs [-List.map_append, q, qi]) ⟨by simp, none, none, none, none, none, none, rfl⟩
  rw [foldl_flat, List.nil_append] at e
  have e3 : (pairSys one other s1 s2 c).behind added = (pairsL p1 p2).flatMap fun p => (lets c).flatMap (one68 (pairSys one other s1 s2 c) added p) := by
    show (pairsL one.phs.length other.phs.length).flatMap _ = _
    rw [h1.plen, h2.plen]
    rfl
  rw [← e3] at e
  simp -implicitDefEqProofs [b_68, e]
end
end PK
end
section
set_option linter.all false
set_option maxRecDepth 100000
set_option maxHeartbeats 1000000
/-! PkL5: kept_pairs. -/
namespace PK
theorem stepK_sub {w : Nat} : ∀ (F : List (Itm (Nat × Nat))) (bas : Nat × Nat → Bas) (A : List (Itm (Nat × Nat))), ∀ d ∈ (F.foldl (stepK w) (bas, A)).2, d ∈ A ∨ d ∈ F
  | [], bas, A, d, h => .inl h
  | c :: F, bas, A, d, h => by
    rw [List.foldl_cons] at h
    have hp : stepK w (bas, A) c = ((stepK w (bas, A) c).1, (stepK w (bas, A) c).2) := rfl
    rw [hp] at h
    rcases stepK_sub F _ _ d h with h | h
    · unfold stepK at h
      split at h
      · exact .inl h
      · rcases List.mem_append.mp h with h | h
        · exact .inl h
        · exact .inr (by simp at h; simp [h])
    · exact .inr (by simp [h])
theorem encBs_ite (ps : List (Nat × Nat)) (bas : Nat × Nat → Bas) (p : Nat × Nat) (b : Bas) : encD ps (fun q => if q = p then encB b else encB (bas q)) = encD ps (fun q => encB (if q = p then b else bas q)) := by
  congr 1
  funext q
  split <;> rfl
section
variable {one other : Mke} {s1 s2 p1 p2 c b B1 B2 d1 d2 : Nat}
def env67 (one other : Mke) (P : List (Nat × Nat)) (w : Nat) (a3 : Slot) (bas : Nat × Nat → Bas) (x6 x7 x8 x9 x10 x11 x12 : Slot) : Env :=
  [some (.f, encMk one), some (.f, encMk other), some (.f, .lst (P.map encP)), a3, some (.f, .int w), some (.f, encD P fun p => encB (bas p)), x6, x7, x8, x9, x10, x11, x12, none, none]
theorem inner67 (n : Nat) {P : List (Nat × Nat)} (hP : P.Nodup) (hPl : P.length ≤ 25) {w M : Nat} (hw : w ≤ 10) (hM : 2 ^ w * M ≤ 44000000) (a3 x6 x7 : Slot) {F : List (Itm (Nat × Nat))} (hF : ∀ i ∈ F, i.1 ∈ P ∧ i.2.2.length = w ∧ Bl M i.2.2) (hFl : F.length ≤ 100000) {bas : Nat × Nat → Bas} (hb : ∀ p, BOk w w (bas p) ∧ BB M w 0 (bas p)) (y9 y10 y11 y12 : Slot) :
    (∀ p, BOk w w ((F.foldl (stepK w) (bas, [])).1 p) ∧ BB M w 0 ((F.foldl (stepK w) (bas, [])).1 p)) ∧ ∃ z9 z10 z11 z12, forL (tF (.tp [(.nm 9), (.nm 10), (.nm 11)])) (bF (tab.gl (n + 7)) L67_2) (F.map encI) (env67 one other P w a3 bas x6 x7 (some (.o, .lst [])) y9 y10 y11 y12) =
      .ok (.nx (env67 one other P w a3 (F.foldl (stepK w) (bas, [])).1 x6 x7 (some (.o, .lst ((F.foldl (stepK w) (bas, [])).2.map encI))) z9 z10 z11 z12)) := by
  obtain ⟨env', e, hlen, hb', z9, z10, z11, z12, rfl⟩ := forL_rel (ft := tF (.tp [(.nm 9), (.nm 10), (.nm 11)])) (fb := bF (tab.gl (n + 7)) L67_2) (e := encI) (xs := F) (i := 0) (b := (bas, ([] : List (Itm (Nat × Nat))))) (env := env67 one other P w a3 bas x6 x7 (some (.o, .lst [])) y9 y10 y11 y12)
    (fun j (s : (Nat × Nat → Bas) × List (Itm (Nat × Nat))) env => s.2.length ≤ j ∧ (∀ p, BOk w w (s.1 p) ∧ BB M w 0 (s.1 p)) ∧ ∃ z9 z10 z11 z12, env = env67 one other P w a3 s.1 x6 x7 (some (.o, .lst (s.2.map encI))) z9 z10 z11 z12)
    (stepK w)
    (fun i hi j s env hj hj2 ⟨hal, hb, z9, z10, z11, z12, he⟩ => by
      subst he
      obtain ⟨bas, A⟩ := s
      simp only at hal hb
      obtain ⟨g1, g2, g3⟩ := hF i hi
      have ix := ix_dct P (fun p => encB (bas p)) g1
      have hbl := bok_len (hb i.1).1
      have hle : 2 ^ (bas i.1).length * M ≤ 2 ^ w * M := Nat.mul_le_mul_right _ (pow_le_pow2 hbl)
      obtain ⟨q1, q2⟩ := sem_longer n (w := w) (n := w) (by omega) (Nat.le_refl _) (hb i.1).2 (by omega) g3 g2 (by omega)
      unfold stepK
      cases hlg : longerQ (bas i.1) i.2.2 w with
      | none =>
        rw [hlg] at q1
        have c1 : cmpD .isnt .non .non = some false := rfl
        simp only [optB, Option.isSome_none] at q1
        refine ⟨_, env67 one other P w a3 bas x6 x7 (some (.o, .lst (A.map encI))) (some (.f, encP i.1)) (some (.f, .str i.2.1)) (some (.f, .tup (i.2.2.map frac))) (some (.f, .non)), rfl, ?_, by simp; omega, hb, _, _, _, _, rfl⟩
        simp -implicitDefEqProofs [env67, encI, ix, q1, c1]
      | some b2 =>
        rw [hlg] at q1
        have c1 : cmpD .isnt (encB b2) .non = some true := rfl
        simp only [optB, Option.isSome_some] at q1
        obtain ⟨env2, hc, kk, hkk, rfl⟩ := comp_inv_map (e := encP) (g := fun p : Nat × Nat => D.tup [encP p, if p = i.1 then encB b2 else encB (bas p)]) (vs := [14]) (ft := tF (.nm 14)) (fi := iF (tab.gl (n + 7)) []) (fe := xF (tab.gl (n + 7)) E67_5) (xs := P)
          (I := fun env => ∃ kk : Ow, (kk = .o ∨ kk = .f) ∧ env = env67 one other P w a3 bas x6 x7 (some (.o, .lst (A.map encI))) (some (.f, encP i.1)) (some (.f, .str i.2.1)) (some (.f, .tup (i.2.2.map frac))) (some (kk, encB b2)))
          (env := env67 one other P w a3 bas x6 x7 (some (.o, .lst (A.map encI))) (some (.f, encP i.1)) (some (.f, .str i.2.1)) (some (.f, .tup (i.2.2.map frac))) (some (.o, encB b2)))
          (fun p hp env ⟨kk, hkk, he⟩ => by
            subst he
            have eq := eq_P p i.1
            have ixp := ix_dct P (fun p => encB (bas p)) hp
            have l2 : 2 ≤ line := by decide
            by_cases h : p = i.1
            · refine ⟨_, _, false, put (env67 one other P w a3 bas x6 x7 (some (.o, .lst (A.map encI))) (some (.f, encP i.1)) (some (.f, .str i.2.1)) (some (.f, .tup (i.2.2.map frac))) (some (.f, encB b2))) 14 (some (.f, encP p)), rfl, rfl, ?_, .f, .inr rfl, rfl⟩
              subst h
              rcases hkk with rfl | rfl <;> simp -implicitDefEqProofs [env67, eq, l2]
            · refine ⟨_, _, false, put (env67 one other P w a3 bas x6 x7 (some (.o, .lst (A.map encI))) (some (.f, encP i.1)) (some (.f, .str i.2.1)) (some (.f, .tup (i.2.2.map frac))) (some (kk, encB b2))) 14 (some (.f, encP p)), rfl, rfl, ?_, kk, hkk, rfl⟩
              simp -implicitDefEqProofs [env67, eq, l2, h, ixp]) ⟨.o, .inl rfl, rfl⟩
        have dO := dict_of (fun q : Nat × Nat => if q = i.1 then encB b2 else encB (bas q)) hP
        rw [encBs_ite] at dO
        have l3 : 3 ≤ line := by decide
        have l1 : 1 ≤ line := by decide
        have lP : P.length ≤ line := by simp only [line]; omega
        have al := add_lst (A.map encI) [encI i] (by simp [line]; omega)
        simp only [encI] at al
        refine ⟨_, env67 one other P w a3 (fun q => if q = i.1 then b2 else bas q) x6 x7 (some (.o, .lst ((A ++ [i]).map encI))) (some (.f, encP i.1)) (some (.f, .str i.2.1)) (some (.f, .tup (i.2.2.map frac))) (some (kk, encB b2)), rfl, ?_, by simp; omega, fun p => ?_, _, _, _, _, rfl⟩
        · simp only [env67] at hc
          simp -implicitDefEqProofs [env67, encI, ix, q1, c1, hc, dO, l3, l1, lP, al]
        · simp only
          split
          · exact ⟨longer_ok (hb i.1).1 g2 hlg, q2 b2 hlg⟩
          · exact hb p) ⟨by simp, hb, y9, y10, y11, y12, rfl⟩
  exact ⟨hb', z9, z10, z11, z12, e⟩
end
end PK
end
section
set_option linter.all false
set_option maxRecDepth 100000
set_option maxHeartbeats 1000000
/-! PkL6: kept_pairs, to its end. -/
namespace PK
section
variable {one other : Mke} {s1 s2 p1 p2 c b B1 B2 d1 d2 : Nat}
/-- the bits of the vectors of a level -/
theorem lev_bd (h1 : WF one s1 p1 c b B1) (h2 : WF other s2 p2 c b B2) (e1 : Dn one d1) (e2 : Dn other d2) : ∀ n, ∀ i ∈ ((pairSys one other s1 s2 c).lev n).fresh, Bd (b + b + n * (b + 4 * d1 + 4 * d2 + 3)) i.2.2
  | 0, i, hi => by
    obtain ⟨p, hp, rfl⟩ := List.mem_map.mp hi
    have hp := mem_pairsL.mp hp
    rw [h1.plen, h2.plen] at hp
    simpa using v0_bd h1 h2 hp.1 hp.2
  | n + 1, i, hi => by
    obtain ⟨d, hd, p, hp, k, hk, e, rfl⟩ := mem_behind.mp hi
    have hdf : d ∈ ((pairSys one other s1 s2 c).lev n).fresh := by
      rcases stepK_sub _ _ _ d hd with h | h
      · cases h
      · exact h
    have ih := lev_bd h1 h2 e1 e2 n d hdf
    have L := lev_ok (pair_ok h1 h2) n
    have hl := (L.ftru d hdf).len (pair_ok h1 h2)
    have hp := mem_pairsL.mp hp
    rw [h1.plen, h2.plen] at hp
    have := pair_bd h1 h2 e1 e2 hp.1 hp.2 ((mem_lets h1.c5).mp hk) hl ih
    rw [Nat.add_mul, Nat.one_mul, ← Nat.add_assoc]
    exact this
theorem fresh_few (h1 : WF one s1 p1 c b B1) (h2 : WF other s2 p2 c b B2) : ∀ n, ((pairSys one other s1 s2 c).lev n).fresh.length ≤ 100000 := by
  intro n
  have hz1 := h1.sz
  have hz2 := h2.sz
  have hc5 := h1.c5
  have hpl : (pairsL p1 p2).length ≤ 25 := by
    rw [pairsL_len]
    have := Nat.mul_le_mul h1.p5 h2.p5
    omega
  have hll : (lets c).length ≤ 5 := by simp [lets]; omega
  have hps : (pairSys one other s1 s2 c).ps = pairsL p1 p2 := by show pairsL one.phs.length other.phs.length = _; rw [h1.plen, h2.plen]
  cases n with
  | zero =>
    show ((pairSys one other s1 s2 c).ps.map _).length ≤ _
    rw [List.length_map, hps]
    omega
  | succ n =>
    have L := lev_ok (pair_ok h1 h2) (n + 1)
    have hk := kept_few (pair_ok h1 h2) (n + 1)
    rw [hps] at hk
    have hw : (pairSys one other s1 s2 c).w ≤ 10 := by show s1 + s2 + 2 ≤ 10; omega
    have hA : ((((pairSys one other s1 s2 c).lev n).fresh.foldl (stepK (pairSys one other s1 s2 c).w) (((pairSys one other s1 s2 c).lev n).bas, [])).2).length ≤ 250 := by
      have : ((pairSys one other s1 s2 c).lev (n + 1)).kept = ((pairSys one other s1 s2 c).lev n).kept ++ _ := rfl
      rw [this, List.length_append] at hk
      have h3 := Nat.mul_le_mul hpl hw
      omega
    show ((pairSys one other s1 s2 c).behind _).length ≤ _
    unfold Sys.behind
    rw [hps]
    have f := flat_len (fun p => (pairSys one other s1 s2 c).ks.flatMap fun k => ((((((pairSys one other s1 s2 c).lev n).fresh.foldl (stepK (pairSys one other s1 s2 c).w) (((pairSys one other s1 s2 c).lev n).bas, [])).2).filter fun i => decide (i.1 = (pairSys one other s1 s2 c).nx p k)).map fun i => (p, k :: i.2.1, (pairSys one other s1 s2 c).T p k i.2.2))) 1250 (pairsL p1 p2) fun p _ => by
      have g := flat_len (fun k => ((((((pairSys one other s1 s2 c).lev n).fresh.foldl (stepK (pairSys one other s1 s2 c).w) (((pairSys one other s1 s2 c).lev n).bas, [])).2).filter fun i => decide (i.1 = (pairSys one other s1 s2 c).nx p k)).map fun i => (p, k :: i.2.1, (pairSys one other s1 s2 c).T p k i.2.2))) 250 (lets c) fun k _ => by
        rw [List.length_map]
        exact Nat.le_trans (List.length_filter_le _ _) hA
      have := Nat.mul_le_mul_right 250 hll
      exact Nat.le_trans g (by omega)
    have := Nat.mul_le_mul_right 1250 hpl
    exact Nat.le_trans f (by omega)
/-- the bound that the numbers of a pair keep -/
def Fits (n w b d1 d2 : Nat) : Prop := 2 ^ w * (b + b + (n * w + 1) * (b + 4 * d1 + 4 * d2 + 3) + 1) ≤ 44000000
theorem cmp_ne_items (F : List (Itm (Nat × Nat))) (hr : ∀ i ∈ F, ∀ k ∈ i.2.1, k < 1114112) : cmpD .ne (.lst (F.map encI)) (.lst []) = some (!F.isEmpty) := by
  have hs : shal 40 (.lst (F.map encI)) = true := by
    simp only [shal]
    refine shals_of fun x hx => ?_
    obtain ⟨i, hi, rfl⟩ := List.mem_map.mp hx
    have hk : (i.2.1.all fun c => decide (c < 1114112)) = true := List.all_eq_true.mpr fun k hk => decide_eq_true (hr i hi k hk)
    simp only [encI, shal, shals, Bool.and_eq_true, Bool.and_true]
    exact ⟨shal_P _ _, hk, shals_frac _ _⟩
  have h0 : shal 40 (.lst []) = true := by simp [shal, shals]
  simp only [cmpD, hs, h0, Bool.and_self, if_true]
  cases F with
  | nil => simp [eqD, eqDs]
  | cons i F => simp [eqD, eqDs]
theorem true_small {S : Sys (Nat × Nat)} (hS : ∀ k ∈ S.ks, k < 1114112) {F : List (Itm (Nat × Nat))} (h : ∀ i ∈ F, S.True i) : ∀ i ∈ F, ∀ k ∈ i.2.1, k < 1114112 := fun i hi k hk => hS k ((h i hi).2.1 k hk)
theorem lets_small {c : Nat} (h : c ≤ 5) : ∀ k ∈ lets c, k < 1114112 := fun k hk => by
  have := (mem_lets h).mp hk
  have := this.2
  omega
/-- one level of the loop -/
theorem level67 (n : Nat) (h1 : WF one s1 p1 c b B1) (h2 : WF other s2 p2 c b B2) (e1 : Dn one d1) (e2 : Dn other d2) (hf : Fits (p1 * p2) (s1 + s2 + 2) b d1 d2) {m : Nat} (hm : m ≤ p1 * p2 * (s1 + s2 + 2)) (a3 : Slot)
    (hb : ∀ p, BOk (s1 + s2 + 2) (s1 + s2 + 2) (((pairSys one other s1 s2 c).lev m).bas p) ∧ BB (b + b + (p1 * p2 * (s1 + s2 + 2) + 1) * (b + 4 * d1 + 4 * d2 + 3) + 1) (s1 + s2 + 2) 0 (((pairSys one other s1 s2 c).lev m).bas p)) (y8 y9 y10 y11 y12 : Slot) :
    (∀ p, BOk (s1 + s2 + 2) (s1 + s2 + 2) (((pairSys one other s1 s2 c).lev (m + 1)).bas p) ∧ BB (b + b + (p1 * p2 * (s1 + s2 + 2) + 1) * (b + 4 * d1 + 4 * d2 + 3) + 1) (s1 + s2 + 2) 0 (((pairSys one other s1 s2 c).lev (m + 1)).bas p)) ∧
    ∃ z8 z9 z10 z11 z12, bF (tab.gl (n + 7)) L67_3 (env67 one other (pairsL p1 p2) (s1 + s2 + 2) a3 ((pairSys one other s1 s2 c).lev m).bas (some (.o, .lst (((pairSys one other s1 s2 c).lev m).kept.map encI))) (some (.o, .lst (((pairSys one other s1 s2 c).lev m).fresh.map encI))) y8 y9 y10 y11 y12) =
      .ok (.nx (env67 one other (pairsL p1 p2) (s1 + s2 + 2) a3 ((pairSys one other s1 s2 c).lev (m + 1)).bas (some (.o, .lst (((pairSys one other s1 s2 c).lev (m + 1)).kept.map encI))) (some (.o, .lst (((pairSys one other s1 s2 c).lev (m + 1)).fresh.map encI))) z8 z9 z10 z11 z12)) := by
  have hz1 := h1.sz
  have hz2 := h2.sz
  have ok := pair_ok h1 h2
  have L := lev_ok ok m
  have L1 := lev_ok ok (m + 1)
  have hps : (pairSys one other s1 s2 c).ps = pairsL p1 p2 := by show pairsL one.phs.length other.phs.length = _; rw [h1.plen, h2.plen]
  have hpl : (pairsL p1 p2).length ≤ 25 := by
    rw [pairsL_len]
    have := Nat.mul_le_mul h1.p5 h2.p5
    omega
  have hppl : p1 * p2 ≤ 25 := by rw [← pairsL_len]; exact hpl
  have hN : p1 * p2 * (s1 + s2 + 2) ≤ 250 := Nat.le_trans (Nat.mul_le_mul hppl (show s1 + s2 + 2 ≤ 10 by omega)) (by decide)
  have hmg : m * (b + 4 * d1 + 4 * d2 + 3) ≤ (p1 * p2 * (s1 + s2 + 2)) * (b + 4 * d1 + 4 * d2 + 3) := Nat.mul_le_mul_right _ hm
  have hM : b + b + (p1 * p2 * (s1 + s2 + 2) + 1) * (b + 4 * d1 + 4 * d2 + 3) + 1 ≤ 44000000 := by
    unfold Fits at hf
    refine Nat.le_trans ?_ hf
    exact Nat.le_mul_of_pos_left _ (Nat.pow_pos (by omega))
  rw [Nat.add_mul, Nat.one_mul] at hM
  have fbd := lev_bd h1 h2 e1 e2 m
  obtain ⟨hb', z9, z10, z11, z12, q⟩ := inner67 n (one := one) (other := other) (P := pairsL p1 p2) (pairsL_nodup _ _) hpl (w := s1 + s2 + 2) (by omega) hf a3 (some (.o, .lst (((pairSys one other s1 s2 c).lev m).kept.map encI))) (some (.f, .lst (((pairSys one other s1 s2 c).lev m).fresh.map encI))) (F := ((pairSys one other s1 s2 c).lev m).fresh)
    (fun i hi => ⟨by have := (L.ftru i hi).1; rw [hps] at this; exact this, (L.ftru i hi).len ok, ⟨_, by rw [Nat.add_mul, Nat.one_mul]; omega, fbd i hi⟩⟩) (fresh_few h1 h2 m) (bas := ((pairSys one other s1 s2 c).lev m).bas) hb y9 y10 y11 y12
  have hk := kept_few ok (m + 1)
  rw [hps] at hk
  have hw : (pairSys one other s1 s2 c).w ≤ 10 := by show s1 + s2 + 2 ≤ 10; omega
  have hkl : (((pairSys one other s1 s2 c).lev m).kept ++ (((pairSys one other s1 s2 c).lev m).fresh.foldl (stepK (s1 + s2 + 2)) (((pairSys one other s1 s2 c).lev m).bas, [])).2).length ≤ 250 := by
    have h3 := Nat.mul_le_mul hpl hw
    exact Nat.le_trans hk h3
  rw [List.length_append] at hkl
  have hA : ∀ i ∈ (((pairSys one other s1 s2 c).lev m).fresh.foldl (stepK (s1 + s2 + 2)) (((pairSys one other s1 s2 c).lev m).bas, [])).2, i ∈ ((pairSys one other s1 s2 c).lev m).fresh := fun i hi => by
    rcases stepK_sub _ _ _ i hi with h | h
    · cases h
    · exact h
  have q2 := sem_behind_all n h1 h2 e1 e2 (C := b + b + m * (b + 4 * d1 + 4 * d2 + 3)) (by omega) (added := (((pairSys one other s1 s2 c).lev m).fresh.foldl (stepK (s1 + s2 + 2)) (((pairSys one other s1 s2 c).lev m).bas, [])).2)
    (fun i hi => ⟨(L.ftru i (hA i hi)).len ok, fbd i (hA i hi), by rw [L.flen i (hA i hi)]; omega⟩) (by omega)
  refine ⟨hb', some (.f, .lst ((((pairSys one other s1 s2 c).lev m).fresh.foldl (stepK (s1 + s2 + 2)) (((pairSys one other s1 s2 c).lev m).bas, [])).2.map encI)), z9, z10, z11, z12, ?_⟩
  have ad := add_lst (((pairSys one other s1 s2 c).lev m).kept.map encI) ((((pairSys one other s1 s2 c).lev m).fresh.foldl (stepK (s1 + s2 + 2)) (((pairSys one other s1 s2 c).lev m).bas, [])).2.map encI) (by simp [line]; omega)
  rw [← List.map_append] at ad
  have l0 : 0 ≤ line := by decide
  have l2 : 2 ≤ line := by decide
  show bF (tab.gl (n + 7)) L67_3 _ = .ok (.nx (env67 one other (pairsL p1 p2) (s1 + s2 + 2) a3 (((pairSys one other s1 s2 c).lev m).fresh.foldl (stepK (s1 + s2 + 2)) (((pairSys one other s1 s2 c).lev m).bas, [])).1 (some (.o, .lst ((((pairSys one other s1 s2 c).lev m).kept ++ (((pairSys one other s1 s2 c).lev m).fresh.foldl (stepK (s1 + s2 + 2)) (((pairSys one other s1 s2 c).lev m).bas, [])).2).map encI))) (some (.o, .lst (((pairSys one other s1 s2 c).behind (((pairSys one other s1 s2 c).lev m).fresh.foldl (stepK (s1 + s2 + 2)) (((pairSys one other s1 s2 c).lev m).bas, [])).2).map encI))) (some (.f, .lst ((((pairSys one other s1 s2 c).lev m).fresh.foldl (stepK (s1 + s2 + 2)) (((pairSys one other s1 s2 c).lev m).bas, [])).2.map encI))) z9 z10 z11 z12))
  simp only [env67] at q ⊢
  simp -implicitDefEqProofs [-List.map_append, -Int.natCast_add, q, q2, ad, l0, l2]
end
end PK
end
section
set_option linter.all false
set_option maxRecDepth 100000
set_option maxHeartbeats 1000000
/-! PkL7: kept_pairs as a whole; the first row that parts. -/
namespace PK
def encRV (i : Itm (Nat × Nat)) : D := .tup [.str i.2.1, .tup (i.2.2.map frac)]
def encK (P : List (Nat × Nat)) (K : List (Itm (Nat × Nat))) : D := encD P fun p => .lst ((K.filter fun i => decide (i.1 = p)).map encRV)
section
variable {one other : Mke} {s1 s2 p1 p2 c b B1 B2 d1 d2 : Nat}
theorem cond67 (n : Nat) (P : List (Nat × Nat)) (w : Nat) (a3 : Slot) (bas : Nat × Nat → Bas) (x6 x8 x9 x10 x11 x12 : Slot) {F : List (Itm (Nat × Nat))} (hr : ∀ i ∈ F, ∀ k ∈ i.2.1, k < 1114112) (k : Ow) : cF (tab.gl n) E67_4 (env67 one other P w a3 bas x6 (some (k, .lst (F.map encI))) x8 x9 x10 x11 x12) = .ok (!F.isEmpty, env67 one other P w a3 bas x6 (some (k, .lst (F.map encI))) x8 x9 x10 x11 x12) := by
  have e := cmp_ne_items F hr
  have l0 : 0 ≤ line := by decide
  simp -implicitDefEqProofs [cF, env67, e, l0]
theorem loop67 (n : Nat) (h1 : WF one s1 p1 c b B1) (h2 : WF other s2 p2 c b B2) (e1 : Dn one d1) (e2 : Dn other d2) (hf : Fits (p1 * p2) (s1 + s2 + 2) b d1 d2) (a3 : Slot) : ∀ (j m : Nat), m + j = p1 * p2 * (s1 + s2 + 2) + 1 →
    (∀ p, BOk (s1 + s2 + 2) (s1 + s2 + 2) (((pairSys one other s1 s2 c).lev m).bas p) ∧ BB (b + b + (p1 * p2 * (s1 + s2 + 2) + 1) * (b + 4 * d1 + 4 * d2 + 3) + 1) (s1 + s2 + 2) 0 (((pairSys one other s1 s2 c).lev m).bas p)) → ∀ (y8 y9 y10 y11 y12 : Slot),
    ∃ m' z8 z9 z10 z11 z12, whlN (cF (tab.gl (n + 7)) E67_4) (bF (tab.gl (n + 7)) L67_3) (j + 1) (env67 one other (pairsL p1 p2) (s1 + s2 + 2) a3 ((pairSys one other s1 s2 c).lev m).bas (some (.o, .lst (((pairSys one other s1 s2 c).lev m).kept.map encI))) (some (.o, .lst (((pairSys one other s1 s2 c).lev m).fresh.map encI))) y8 y9 y10 y11 y12) =
      .ok (.nx (env67 one other (pairsL p1 p2) (s1 + s2 + 2) a3 ((pairSys one other s1 s2 c).lev m').bas (some (.o, .lst (((pairSys one other s1 s2 c).lev m').kept.map encI))) (some (.o, .lst (((pairSys one other s1 s2 c).lev m').fresh.map encI))) z8 z9 z10 z11 z12)) ∧ ((pairSys one other s1 s2 c).lev m').fresh = [] := by
  have ok := pair_ok h1 h2
  have hps : (pairSys one other s1 s2 c).ps.length = p1 * p2 := by
    show (pairsL one.phs.length other.phs.length).length = _
    rw [h1.plen, h2.plen, pairsL_len]
  intro j
  induction j with
  | zero =>
    intro m hm hb y8 y9 y10 y11 y12
    have hfr : ((pairSys one other s1 s2 c).lev m).fresh = [] := fresh_short ok m (by rw [hps]; show p1 * p2 * (s1 + s2 + 2) < m; omega)
    refine ⟨m, y8, y9, y10, y11, y12, ?_, hfr⟩
    have cc := cond67 (one := one) (other := other) (n + 7) (pairsL p1 p2) (s1 + s2 + 2) a3 ((pairSys one other s1 s2 c).lev m).bas (some (.o, .lst (((pairSys one other s1 s2 c).lev m).kept.map encI))) y8 y9 y10 y11 y12 (F := ((pairSys one other s1 s2 c).lev m).fresh) (true_small (lets_small h1.c5) (lev_ok ok m).ftru) .o
    rw [whlN, cc]
    simp only [hfr, Res.bindE, List.isEmpty_nil, Bool.not_true]
  | succ j ih =>
    intro m hm hb y8 y9 y10 y11 y12
    have cc := cond67 (one := one) (other := other) (n + 7) (pairsL p1 p2) (s1 + s2 + 2) a3 ((pairSys one other s1 s2 c).lev m).bas (some (.o, .lst (((pairSys one other s1 s2 c).lev m).kept.map encI))) y8 y9 y10 y11 y12 (F := ((pairSys one other s1 s2 c).lev m).fresh) (true_small (lets_small h1.c5) (lev_ok ok m).ftru) .o
    by_cases hfr : ((pairSys one other s1 s2 c).lev m).fresh = []
    · refine ⟨m, y8, y9, y10, y11, y12, ?_, hfr⟩
      rw [whlN, cc]
      simp only [hfr, Res.bindE, List.isEmpty_nil, Bool.not_true]
    · have he : ((pairSys one other s1 s2 c).lev m).fresh.isEmpty = false := by simpa using hfr
      obtain ⟨hb', z8, z9, z10, z11, z12, q⟩ := level67 n h1 h2 e1 e2 hf (m := m) (by omega) a3 hb y8 y9 y10 y11 y12
      obtain ⟨m', w8, w9, w10, w11, w12, g1, g2⟩ := ih (m + 1) (by omega) hb' z8 z9 z10 z11 z12
      refine ⟨m', w8, w9, w10, w11, w12, ?_, g2⟩
      rw [whlN, cc]
      simp only [he, Res.bindE, Bool.not_false, q]
      exact g1
/-- the kept ones of a pair of phases, told -/
theorem tell67 (n : Nat) (P : List (Nat × Nat)) (w : Nat) (a3 : Slot) (bas : Nat × Nat → Bas) (K : List (Itm (Nat × Nat))) (p : Nat × Nat) (x7 x8 x12 : Slot) :
    compL [14, 10, 11] (tF (.tp [(.nm 14), (.nm 10), (.nm 11)])) (iF (tab.gl n) I67_1) (xF (tab.gl n) E67_6) (K.map encI) (env67 one other P w a3 bas (some (.f, .lst (K.map encI))) x7 x8 (some (.f, encP p)) none none x12) =
      .ok ((K.filter fun i => decide (i.1 = p)).map encRV, env67 one other P w a3 bas (some (.f, .lst (K.map encI))) x7 x8 (some (.f, encP p)) none none x12) := by
  refine compL_filter (e := encI) (g := encRV) (p := fun i => decide (i.1 = p)) fun i hi => ?_
  have eq := eq_P i.1 p
  have l2 : 2 ≤ line := by decide
  refine ⟨_, put (put (put (env67 one other P w a3 bas (some (.f, .lst (K.map encI))) x7 x8 (some (.f, encP p)) none none x12) 14 (some (.f, encP i.1))) 10 (some (.f, .str i.2.1))) 11 (some (.f, .tup (i.2.2.map frac))), rfl, ?_, fun _ => rfl, fun _ => ⟨false, put (put (put (env67 one other P w a3 bas (some (.f, .lst (K.map encI))) x7 x8 (some (.f, encP p)) none none x12) 14 (some (.f, encP i.1))) 10 (some (.f, .str i.2.1))) 11 (some (.f, .tup (i.2.2.map frac))), ?_, rfl⟩⟩
  · by_cases h : i.1 = p
    · rw [h] at eq
      simp -implicitDefEqProofs [env67, eq, h]
    · simp -implicitDefEqProofs [env67, eq, h]
  · simp -implicitDefEqProofs [env67, encRV, l2]
theorem pairs_loop (n : Nat) (h2 : WF other s2 p2 c b B2) (hp : p1 ≤ 5) (x0 : Slot) : ∃ z3, forL (tF (.nm 3)) (bF (tab.gl n) L67_1) (rangeD 0 p1) [x0, some (.f, encMk other), some (.o, .lst []), none, none, none, none, none, none, none, none, none, none, none, none] =
    .ok (.nx [x0, some (.f, encMk other), some (.o, .lst ((pairsL p1 p2).map encP)), z3, none, none, none, none, none, none, none, none, none, none, none]) := by
  have hq5 := h2.p5
  obtain ⟨env', e, hlen, z3, rfl⟩ := forL_rel (ft := tF (.nm 3)) (fb := bF (tab.gl n) L67_1) (e := fun i : Nat => D.int (0 + i)) (xs := List.range p1) (i := 0) (b := ([] : List (Nat × Nat))) (env := [x0, some (.f, encMk other), some (.o, .lst []), none, none, none, none, none, none, none, none, none, none, none, none])
    (fun j (a : List (Nat × Nat)) env => a.length ≤ j * 5 ∧ ∃ z3, env = [x0, some (.f, encMk other), some (.o, .lst (a.map encP)), z3, none, none, none, none, none, none, none, none, none, none, none])
    (fun a p => a ++ (List.range p2).map fun q => (p, q))
    (fun p hpm j a env hj hj2 ⟨hal, z3, he⟩ => by
      subst he
      have hpl : j < 5 := by simp at hj2; omega
      have hc := comp_map (n := n) (v := 13) (e := fun i : Nat => D.int (0 + i)) (g := fun q : Nat => encP (p, q)) (xs := List.range p2) (elt := E67_1) (env := [x0, some (.f, encMk other), some (.o, .lst (a.map encP)), some (.f, .int p), none, none, none, none, none, none, none, none, none, none, none])
        (fun q hq => ⟨false, by
          have l2 : 2 ≤ line := by decide
          simp -implicitDefEqProofs [l2, encP]⟩) (fun s => by simp)
      rw [← map_range] at hc
      have rk : rngOk (p2 : Int) = true := by simp [rngOk]; omega
      have pl : (other.phs.length : Int) = p2 := by rw [h2.plen]
      have lp : p2 ≤ line := by simp only [line]; omega
      have ad := add_lst (a.map encP) ((List.range p2).map fun q => encP (p, q)) (by simp [line]; omega)
      refine ⟨[x0, some (.f, encMk other), some (.o, .lst (a.map encP)), some (.f, .int p), none, none, none, none, none, none, none, none, none, none, none], [x0, some (.f, encMk other), some (.o, .lst ((a ++ (List.range p2).map fun q => (p, q)).map encP)), some (.f, .int p), none, none, none, none, none, none, none, none, none, none, none], by simp, ?_, by simp; omega, some (.f, .int p), rfl⟩
      have e2 : (a ++ (List.range p2).map fun q => (p, q)).map encP = a.map encP ++ (List.range p2).map fun q => encP (p, q) := by simp [List.map_map, Function.comp_def]
      rw [e2]
      simp -implicitDefEqProofs [rk, pl, hc, lp, ad]) ⟨by simp, none, rfl⟩
  rw [foldl_flat, List.nil_append, ← map_range] at e
  exact ⟨z3, e⟩
theorem sem_kept_pairs (n : Nat) (h1 : WF one s1 p1 c b B1) (h2 : WF other s2 p2 c b B2) (e1 : Dn one d1) (e2 : Dn other d2) (hf : Fits (p1 * p2) (s1 + s2 + 2) b d1 d2) : ∃ m, ((pairSys one other s1 s2 c).lev m).fresh = [] ∧
    tab.sem (n + 8) 67 [encMk one, encMk other] = .ok (encK (pairsL p1 p2) ((pairSys one other s1 s2 c).lev m).kept, false, .non) := by
  have hz1 := h1.sz
  have hz2 := h2.sz
  have hp5 := h1.p5
  have hq5 := h2.p5
  have ok := pair_ok h1 h2
  have hps : (pairSys one other s1 s2 c).ps = pairsL p1 p2 := by show pairsL one.phs.length other.phs.length = _; rw [h1.plen, h2.plen]
  have hpl : (pairsL p1 p2).length ≤ 25 := by
    rw [pairsL_len]
    have := Nat.mul_le_mul hp5 hq5
    omega
  obtain ⟨z3, q1⟩ := pairs_loop (p1 := p1) (n + 7) h2 hp5 (some (.f, encMk one))
  have c1 := comp_map (n := n + 7) (v := 9) (e := encP) (g := fun p => encI (p, [], (pairSys one other s1 s2 c).v0 p)) (xs := pairsL p1 p2) (elt := E67_2) (env := [some (.f, encMk one), some (.f, encMk other), some (.f, .lst ((pairsL p1 p2).map encP)), z3, some (.f, .int ((s1 + s2 + 2 : Nat) : Int)), none, none, none, none, none, none, none, none, none, none])
    (fun p hp => ⟨false, by
      obtain ⟨g1, g2⟩ := mem_pairsL.mp hp
      have e := sem_shown_vector (n + 3) h1 h2 g1 g2
      have l3 : 3 ≤ line := by decide
      simp -implicitDefEqProofs [e, l3, encI]⟩) (fun s => by simp)
  have i0 : ((pairsL p1 p2).map fun p => encI (p, [], (pairSys one other s1 s2 c).v0 p)) = ((pairSys one other s1 s2 c).lev 0).fresh.map encI := by
    show _ = ((pairSys one other s1 s2 c).ps.map _).map encI
    rw [hps, List.map_map]
    rfl
  rw [i0] at c1
  have c2 := comp_map (n := n + 7) (v := 9) (e := encP) (g := fun p => D.tup [encP p, encB []]) (xs := pairsL p1 p2) (elt := E67_3) (env := [some (.f, encMk one), some (.f, encMk other), some (.f, .lst ((pairsL p1 p2).map encP)), z3, some (.f, .int ((s1 + s2 + 2 : Nat) : Int)), none, some (.o, .lst []), some (.o, .lst (((pairSys one other s1 s2 c).lev 0).fresh.map encI)), none, none, none, none, none, none, none])
    (fun p hp => ⟨false, by
      have l2 : 2 ≤ line := by decide
      have l0 : 0 ≤ line := by decide
      simp -implicitDefEqProofs [l2, l0, encB]⟩) (fun s => by simp)
  have dO := dict_of (fun _ : Nat × Nat => encB []) (pairsL_nodup p1 p2)
  obtain ⟨m, w8, w9, w10, w11, w12, q2, hfr⟩ := loop67 n h1 h2 e1 e2 hf z3 (p1 * p2 * (s1 + s2 + 2) + 1) 0 (by omega) (fun p => ⟨.nil, fun j q h => by simp [Sys.lev] at h⟩) none none none none none
  have q2 := whl_ok q2
  refine ⟨m, hfr, ?_⟩
  obtain ⟨env2, c3, kk, hkk, rfl⟩ := comp_inv_map (e := encP) (g := fun p : Nat × Nat => D.tup [encP p, .lst ((((pairSys one other s1 s2 c).lev m).kept.filter fun i => decide (i.1 = p)).map encRV)]) (vs := [9]) (ft := tF (.nm 9)) (fi := iF (tab.gl (n + 7)) []) (fe := xF (tab.gl (n + 7)) E67_7) (xs := pairsL p1 p2)
    (I := fun env => ∃ kk : Ow, (kk = .o ∨ kk = .f) ∧ env = env67 one other (pairsL p1 p2) (s1 + s2 + 2) z3 ((pairSys one other s1 s2 c).lev m).bas (some (kk, .lst (((pairSys one other s1 s2 c).lev m).kept.map encI))) (some (.o, .lst (((pairSys one other s1 s2 c).lev m).fresh.map encI))) w8 none w10 w11 w12)
    (env := env67 one other (pairsL p1 p2) (s1 + s2 + 2) z3 ((pairSys one other s1 s2 c).lev m).bas (some (.o, .lst (((pairSys one other s1 s2 c).lev m).kept.map encI))) (some (.o, .lst (((pairSys one other s1 s2 c).lev m).fresh.map encI))) w8 none w10 w11 w12)
    (fun p hp env ⟨kk, hkk, he⟩ => by
      subst he
      have t := tell67 (one := one) (other := other) (n + 7) (pairsL p1 p2) (s1 + s2 + 2) z3 ((pairSys one other s1 s2 c).lev m).bas ((pairSys one other s1 s2 c).lev m).kept p (some (.o, .lst (((pairSys one other s1 s2 c).lev m).fresh.map encI))) w8 w12
      have l2 : 2 ≤ line := by decide
      have hkf := kept_few ok m
      rw [hps] at hkf
      have hw : (pairSys one other s1 s2 c).w ≤ 10 := by show s1 + s2 + 2 ≤ 10; omega
      have h3 := Nat.mul_le_mul hpl hw
      have lk : (((pairSys one other s1 s2 c).lev m).kept.filter fun i => decide (i.1 = p)).length ≤ line := by
        have := List.length_filter_le (fun i => decide (i.1 = p)) ((pairSys one other s1 s2 c).lev m).kept
        simp only [line]
        omega
      refine ⟨_, _, false, put (env67 one other (pairsL p1 p2) (s1 + s2 + 2) z3 ((pairSys one other s1 s2 c).lev m).bas (some (.f, .lst (((pairSys one other s1 s2 c).lev m).kept.map encI))) (some (.o, .lst (((pairSys one other s1 s2 c).lev m).fresh.map encI))) w8 none w10 w11 w12) 9 (some (.f, encP p)), rfl, rfl, ?_, .f, .inr rfl, rfl⟩
      simp only [env67] at t
      rcases hkk with rfl | rfl <;> simp -implicitDefEqProofs [-Int.natCast_add, env67, t, l2, lk]) ⟨.o, .inl rfl, rfl⟩
  have dK := dict_of (fun p : Nat × Nat => D.lst ((((pairSys one other s1 s2 c).lev m).kept.filter fun i => decide (i.1 = p)).map encRV)) (pairsL_nodup p1 p2)
  rw [sem0 tab (n + 7) 67 b_67 _ rfl rfl rfl]
  have rk : rngOk (p1 : Int) = true := by simp [rngOk]; omega
  have pl : (one.phs.length : Int) = p1 := by rw [h1.plen]
  have vl : ((one.vals.length : Int) + (other.vals.length : Int) + 2) = ((s1 + s2 + 2 : Nat) : Int) := by rw [h1.vlen, h2.vlen]; omega
  have l0 : 0 ≤ line := by decide
  have l2 : 2 ≤ line := by decide
  have lP : (pairsL p1 p2).length ≤ line := by simp only [line]; omega
  have lF : ((pairSys one other s1 s2 c).lev 0).fresh.length ≤ line := by have := fresh_few h1 h2 0; simp only [line]; omega
  simp only [env67] at q2 c3
  have hb0 : ((pairSys one other s1 s2 c).lev 0).bas = fun _ => [] := rfl
  have hk0 : ((pairSys one other s1 s2 c).lev 0).kept = [] := rfl
  simp only [hb0, hk0, List.map_nil] at q2
  simp -implicitDefEqProofs [-Int.natCast_add, b_67, rk, pl, vl, q1, c1, c2, c3, dO, dK, q2, l0, l2, lP, lF, encK]
end
end PK
end
section
set_option linter.all false
set_option maxRecDepth 100000
set_option maxHeartbeats 1000000
/-! PkL8: the first row that parts, makes alike. -/
namespace PK
def optS : Option Row → D
  | some r => .str r
  | none => .non
def findNZ (K : List (Itm (Nat × Nat))) (x : V) : Option Row := (K.find? fun c => !decide (dotQ c.2.2 x = 0)).map fun c => c.2.1
section
variable {one other : Mke} {s1 s2 p1 p2 c b B1 B2 d1 d2 : Nat}
theorem ix_encK (P : List (Nat × Nat)) (K : List (Itm (Nat × Nat))) {p : Nat × Nat} (h : p ∈ P) : ixD (encK P K) (encP p) = some (.lst ((K.filter fun i => decide (i.1 = p)).map encRV)) := ix_dct P _ h
theorem loop69 (n : Nat) {C CX : Nat} {x : V} (hx : Bd CX x) (hC : C + CX + 10 < 67000000) (x0 x1 x2 : Slot) : ∀ (K : List (Itm (Nat × Nat))) (y4 y5 : Slot), (∀ i ∈ K, Bd C i.2.2 ∧ i.2.2.length < 1024) →
    ∃ z4 z5, forL (tF (.tp [(.nm 4), (.nm 5)])) (bF (tab.gl (n + 4)) L69_1) (K.map encRV) [x0, x1, x2, some (.f, .tup (x.map frac)), y4, y5] = match findNZ K x with
      | some r => .ok (.rt (.str r) false [x0, x1, x2, some (.f, .tup (x.map frac)), z4, z5])
      | none => .ok (.nx [x0, x1, x2, some (.f, .tup (x.map frac)), z4, z5])
  | [], y4, y5, _ => ⟨y4, y5, rfl⟩
  | i :: K, y4, y5, h => by
    obtain ⟨h1, h2⟩ := h i (by simp)
    have e := sem_dot n h1 hx (L := 10) (by simpa using h2) hC
    have e0 := ne_frac (dotQ i.2.2 x) 0
    rw [frac_zero] at e0
    have l2 : 2 ≤ line := by decide
    by_cases hz : dotQ i.2.2 x = 0
    · obtain ⟨z4, z5, ih⟩ := loop69 n hx hC x0 x1 x2 K (some (.f, .str i.2.1)) (some (.f, .tup (i.2.2.map frac))) fun j hj => h j (by simp [hj])
      refine ⟨z4, z5, ?_⟩
      have e3 : findNZ (i :: K) x = findNZ K x := by simp [findNZ, List.find?_cons, hz]
      rw [e3, ← ih]
      rw [hz] at e e0
      simp -implicitDefEqProofs [forL, encRV, e, e0, l2]
    · refine ⟨some (.f, .str i.2.1), some (.f, .tup (i.2.2.map frac)), ?_⟩
      have e3 : findNZ (i :: K) x = some i.2.1 := by simp [findNZ, List.find?_cons, hz]
      rw [e3]
      simp -implicitDefEqProofs [forL, encRV, e, e0, l2, hz]
theorem kept_bd (h1 : WF one s1 p1 c b B1) (h2 : WF other s2 p2 c b B2) (e1 : Dn one d1) (e2 : Dn other d2) : ∀ m, ∀ i ∈ ((pairSys one other s1 s2 c).lev m).kept, Bd (b + b + i.2.1.length * (b + 4 * d1 + 4 * d2 + 3)) i.2.2
  | 0, i, hi => by cases hi
  | m + 1, i, hi => by
    have hi : i ∈ ((pairSys one other s1 s2 c).lev m).kept ++ (((pairSys one other s1 s2 c).lev m).fresh.foldl (stepK (pairSys one other s1 s2 c).w) (((pairSys one other s1 s2 c).lev m).bas, [])).2 := hi
    rcases List.mem_append.mp hi with hi | hi
    · exact kept_bd h1 h2 e1 e2 m i hi
    · have hf : i ∈ ((pairSys one other s1 s2 c).lev m).fresh := by
        rcases stepK_sub _ _ _ i hi with h | h
        · cases h
        · exact h
      rw [(lev_ok (pair_ok h1 h2) m).flen i hf]
      exact lev_bd h1 h2 e1 e2 m i hf
theorem sem_partedQ (n : Nat) (h1 : WF one s1 p1 c b B1) (h2 : WF other s2 p2 c b B2) (e1 : Dn one d1) (e2 : Dn other d2) (hf : Fits (p1 * p2) (s1 + s2 + 2) b d1 d2) {C1 C2 : Nat} {s t : Sta} (hs : StOk s1 p1 C1 s) (ht : StOk s2 p2 C2 t) (hC : C1 + C2 < 20000000) (m : Nat) :
    tab.sem (n + 5) 69 [encK (pairsL p1 p2) ((pairSys one other s1 s2 c).lev m).kept, encSt s, encSt t] = .ok (optS (firstNZ ((pairSys one other s1 s2 c).lev m).kept (s.1, t.1) (ext s ++ ext t)), false, .non) := by
  rw [sem0 tab (n + 4) 69 b_69 _ rfl rfl rfl]
  have hz1 := h1.sz
  have hz2 := h2.sz
  have ok := pair_ok h1 h2
  have hps : (pairSys one other s1 s2 c).ps.length = p1 * p2 := by
    show (pairsL one.phs.length other.phs.length).length = _
    rw [h1.plen, h2.plen, pairsL_len]
  have hM : b + b + (p1 * p2 * (s1 + s2 + 2) + 1) * (b + 4 * d1 + 4 * d2 + 3) + 1 ≤ 44000000 := by
    unfold Fits at hf
    exact Nat.le_trans (Nat.le_mul_of_pos_left _ (Nat.pow_pos (by omega))) hf
  have hX : Bd (C1 + C2) (ext s ++ ext t) := hs.bd.one.app ht.bd.one
  have hk : ∀ i ∈ ((pairSys one other s1 s2 c).lev m).kept.filter fun i => decide (i.1 = (s.1, t.1)), Bd 44000000 i.2.2 ∧ i.2.2.length < 1024 := fun i hi => by
    have hi := (List.mem_filter.mp hi).1
    have hr := row_short ok hi
    rw [hps] at hr
    have hr : i.2.1.length < p1 * p2 * (s1 + s2 + 2) := hr
    refine ⟨(kept_bd h1 h2 e1 e2 m i hi).mono ?_, ?_⟩
    · have := Nat.mul_le_mul_right (b + 4 * d1 + 4 * d2 + 3) (Nat.le_of_lt hr)
      rw [Nat.add_mul] at hM
      omega
    · rw [((lev_ok ok m).held.tru i hi).len ok]
      show s1 + s2 + 2 < 1024
      omega
  obtain ⟨z4, z5, q⟩ := loop69 n hX (C := 44000000) (by omega) (some (.f, encK (pairsL p1 p2) ((pairSys one other s1 s2 c).lev m).kept)) (some (.f, encSt s)) (some (.f, encSt t)) _ none none hk
  have ix : ixD (encK (pairsL p1 p2) ((pairSys one other s1 s2 c).lev m).kept) (.tup [.int s.1, .int t.1]) = some (.lst ((((pairSys one other s1 s2 c).lev m).kept.filter fun i => decide (i.1 = (s.1, t.1))).map encRV)) := ix_encK _ _ (p := (s.1, t.1)) (mem_pairsL.mpr ⟨hs.ph, ht.ph⟩)
  have a1 := add_tup (s.2.map frac) [D.tup [.int 1, .int 1]] (by simp [line, hs.len]; omega)
  have a2 := add_tup (s.2.map frac ++ [D.tup [.int 1, .int 1]]) (t.2.map frac) (by simp [line, hs.len, ht.len]; omega)
  have a3 := add_tup (s.2.map frac ++ [D.tup [.int 1, .int 1]] ++ t.2.map frac) [D.tup [.int 1, .int 1]] (by simp [line, hs.len, ht.len]; omega)
  have ev : (ext s ++ ext t).map frac = s.2.map frac ++ [D.tup [.int 1, .int 1]] ++ t.2.map frac ++ [D.tup [.int 1, .int 1]] := by simp [ext, frac_one]
  rw [ev] at q
  have l2 : 2 ≤ line := by decide
  have l1 : 1 ≤ line := by decide
  have e3 : firstNZ ((pairSys one other s1 s2 c).lev m).kept (s.1, t.1) (ext s ++ ext t) = findNZ (((pairSys one other s1 s2 c).lev m).kept.filter fun i => decide (i.1 = (s.1, t.1))) (ext s ++ ext t) := rfl
  rw [e3]
  cases h : findNZ (((pairSys one other s1 s2 c).lev m).kept.filter fun i => decide (i.1 = (s.1, t.1))) (ext s ++ ext t) with
  | some r =>
    rw [h] at q
    simp -implicitDefEqProofs [-List.append_assoc, b_69, a1, a2, a3, ix, q, l2, l1, optS]
  | none =>
    rw [h] at q
    simp -implicitDefEqProofs [-List.append_assoc, b_69, a1, a2, a3, ix, q, l2, l1, optS]
/-- the first row is one alone -/
theorem parts_one {s t : Sta} {o o' : Option Row} (h : Parts (s1 := s1) (s2 := s2) one other c s t o) (h' : Parts (s1 := s1) (s2 := s2) one other c s t o') : o = o' := by
  cases o with
  | none =>
    cases o' with
    | none => rfl
    | some r => exact absurd (h.none rfl r (h'.some r rfl).1) (h'.some r rfl).2.1
  | some r =>
    cases o' with
    | none => exact absurd (h'.none rfl r (h.some r rfl).1) (h.some r rfl).2.1
    | some r' =>
      obtain ⟨a1, a2, a3, _⟩ := h.some r rfl
      obtain ⟨b1, b2, b3, _⟩ := h'.some r' rfl
      rcases rle_total r r' with q | q
      · rcases rle_total r' r with q' | q'
        · rw [rle_anti q q']
        · exact absurd (b3 r a1 q') a2
      · exact absurd (a3 r' b1 q) b2
theorem sem_first_parting (n : Nat) (h1 : WF one s1 p1 c b B1) (h2 : WF other s2 p2 c b B2) (e1 : Dn one d1) (e2 : Dn other d2) (hf : Fits (p1 * p2) (s1 + s2 + 2) b d1 d2) (hB : B1 + B2 < 20000000) :
    ∃ o, tab.sem (n + 9) 70 [encMk one, encMk other] = .ok (optS o, false, .non) ∧ Parts (s1 := s1) (s2 := s2) one other c (one.st, one.vals) (other.st, other.vals) o := by
  obtain ⟨m, hfr, q⟩ := sem_kept_pairs n h1 h2 e1 e2 hf
  refine ⟨_, ?_, first_parts h1 h2 h1.first h2.first hfr⟩
  rw [sem0 tab (n + 8) 70 b_70 _ rfl rfl rfl]
  have q2 := sem_partedQ (n + 3) h1 h2 e1 e2 hf h1.first h2.first hB m
  have q3 := sem_first_state (m := one) (n + 7)
  have q4 := sem_first_state (m := other) (n + 7)
  simp -implicitDefEqProofs [b_70, q, q2, q3, q4]
theorem is_opt (o : Option Row) : cmpD .is (optS o) .non = some o.isNone := by cases o <;> rfl
theorem sem_need_pair (n : Nat) (h1 : WF one s1 p1 c b B1) (h2 : WF other s2 p2 c b B2) : tab.sem (n + 8) 62 [encMk one, encMk other] = .ok (.non, false, .non) := by
  rw [sem0 tab (n + 7) 62 b_62 _ rfl rfl rfl]
  have q1 := sem_need_make n h1
  have q2 := sem_need_make n h2
  have q3 := sem_count_keys (n + 6) h1
  have q4 := sem_count_keys (n + 6) h2
  simp -implicitDefEqProofs [b_62, q1, q2, q3, q4]
theorem sem_are_alike (n : Nat) (h1 : WF one s1 p1 c b B1) (h2 : WF other s2 p2 c b B2) (e1 : Dn one d1) (e2 : Dn other d2) (hf : Fits (p1 * p2) (s1 + s2 + 2) b d1 d2) (hB : B1 + B2 < 20000000) :
    ∃ o : Option Row, tab.sem (n + 10) 71 [encMk one, encMk other] = .ok (.bl o.isNone, false, .non) ∧ Parts (s1 := s1) (s2 := s2) one other c (one.st, one.vals) (other.st, other.vals) o := by
  obtain ⟨o, q, hp⟩ := sem_first_parting n h1 h2 e1 e2 hf hB
  refine ⟨o, ?_, hp⟩
  rw [sem0 tab (n + 9) 71 b_71 _ rfl rfl rfl]
  have e := is_opt o
  simp -implicitDefEqProofs [b_71, q, e]
theorem sem_alike (n : Nat) (h1 : WF one s1 p1 c b B1) (h2 : WF other s2 p2 c b B2) (e1 : Dn one d1) (e2 : Dn other d2) (hf : Fits (p1 * p2) (s1 + s2 + 2) b d1 d2) (hB : B1 + B2 < 20000000) :
    ∃ o : Option Row, tab.sem (n + 11) 72 [encMk one, encMk other] = .ok (.bl o.isNone, false, .non) ∧ Parts (s1 := s1) (s2 := s2) one other c (one.st, one.vals) (other.st, other.vals) o := by
  obtain ⟨o, q, hp⟩ := sem_are_alike n h1 h2 e1 e2 hf hB
  refine ⟨o, ?_, hp⟩
  rw [sem0 tab (n + 10) 72 b_72 _ rfl rfl rfl]
  have q2 := sem_need_pair (n + 2) h1 h2
  simp -implicitDefEqProofs [b_72, q, q2]
theorem sem_parting_row (n : Nat) (h1 : WF one s1 p1 c b B1) (h2 : WF other s2 p2 c b B2) (e1 : Dn one d1) (e2 : Dn other d2) (hf : Fits (p1 * p2) (s1 + s2 + 2) b d1 d2) (hB : B1 + B2 < 20000000) :
    ∃ o : Option Row, tab.sem (n + 10) 73 [encMk one, encMk other] = .ok (optS o, false, .non) ∧ Parts (s1 := s1) (s2 := s2) one other c (one.st, one.vals) (other.st, other.vals) o := by
  obtain ⟨o, q, hp⟩ := sem_first_parting n h1 h2 e1 e2 hf hB
  refine ⟨o, ?_, hp⟩
  rw [sem0 tab (n + 9) 73 b_73 _ rfl rfl rfl]
  have q2 := sem_need_pair (n + 1) h1 h2
  simp -implicitDefEqProofs [b_73, q, q2]
theorem mulOk_nat {a b : Nat} (ha : a < 2 ^ 60) (hb : b < 2 ^ 60) : mulOk (a : Int) (b : Int) = true := mulOk_of (K := 60) (L := 60) (by simpa using ha) (by simpa using hb) (by omega)
theorem sem_bound (n : Nat) (h1 : WF one s1 p1 c b B1) (h2 : WF other s2 p2 c b B2) : tab.sem (n + 9) 74 [encMk one, encMk other] = .ok (.int ((p1 * p2 * (s1 + s2 + 1) : Nat) : Int), false, .non) := by
  rw [sem0 tab (n + 8) 74 b_74 _ rfl rfl rfl]
  have hz1 := h1.sz
  have hz2 := h2.sz
  have hp5 := h1.p5
  have hq5 := h2.p5
  have q2 := sem_need_pair n h1 h2
  have hpp : p1 * p2 ≤ 25 := Nat.mul_le_mul hp5 hq5
  have m1 := bin_mul_int (p1 : Int) (p2 : Int) (mulOk_nat (by omega) (by omega))
  have m2 := bin_mul_int ((p1 * p2 : Nat) : Int) ((s1 + s2 + 1 : Nat) : Int) (mulOk_nat (by omega) (by omega))
  rw [← Int.natCast_mul] at m1 m2
  have pl1 : (one.phs.length : Int) = p1 := by rw [h1.plen]
  have pl2 : (other.phs.length : Int) = p2 := by rw [h2.plen]
  have vl : ((one.vals.length : Int) + (other.vals.length : Int) + 1) = ((s1 + s2 + 1 : Nat) : Int) := by rw [h1.vlen, h2.vlen]; omega
  simp -implicitDefEqProofs [-Int.natCast_add, -Int.natCast_mul, b_74, q2, pl1, pl2, vl, m1, m2]
end
end PK
end
section
set_option linter.all false
set_option maxRecDepth 100000
set_option maxHeartbeats 1000000
/-! PkW1: the laws' forms: lowest terms, mixed, joined. -/
namespace PK
def lowF (as : List Int) (c d : Int) : Fo := ⟨as.map fun i => i.fdiv (gcdL 0 (as ++ [c, d])), c.fdiv (gcdL 0 (as ++ [c, d])), d.fdiv (gcdL 0 (as ++ [c, d]))⟩
theorem low_gcd {as : List Int} {c d : Int} (hd : 1 ≤ d) : gcdL 0 (as ++ [c, d]) ≠ 0 := by
  have hm := gcdL_mem (as ++ [c, d]) 0 d (by simp)
  intro e
  rw [e] at hm
  have := Nat.eq_zero_of_zero_dvd hm
  omega
theorem fdiv_pos {d : Int} {g : Nat} (h : (g : Int) ∣ d) (hd : 1 ≤ d) : 1 ≤ d.fdiv g := by
  rw [Int.fdiv_eq_ediv_of_nonneg _ (by omega)]
  obtain ⟨q, hq⟩ := h
  have hg0 : (0 : Int) < g := by
    rcases Nat.eq_zero_or_pos g with h | h
    · subst h; simp at hq; omega
    · omega
  have hq0 : 0 < q := by
    rcases Int.lt_or_le 0 q with h | h
    · exact h
    · have := Int.mul_le_mul_of_nonneg_left h (Int.le_of_lt hg0)
      rw [Int.mul_zero, ← hq] at this
      omega
  rw [hq, Int.mul_ediv_cancel_left _ (by omega)]
  omega
theorem lowF_ok {as : List Int} {c d : Int} {b : Nat} (hd : 1 ≤ d) (hb : ∀ i ∈ as ++ [c, d], i.natAbs < 2 ^ b) : OkF as.length b (lowF as c d) ∧ (lowF as c d).d.natAbs ≤ d.natAbs := by
  have h0 := low_gcd (as := as) (c := c) hd
  have hdv : ∀ i ∈ as ++ [c, d], ((gcdL 0 (as ++ [c, d]) : Nat) : Int) ∣ i := fun i hi => Int.ofNat_dvd_left.mpr (gcdL_mem _ 0 i hi)
  have e : (lowF as c d).as ++ [(lowF as c d).c, (lowF as c d).d] = (as ++ [c, d]).map fun i => i.fdiv (gcdL 0 (as ++ [c, d])) := by simp [lowF]
  refine ⟨⟨by simp [lowF], fdiv_pos (hdv d (by simp)) hd, ?_, ?_⟩, fdiv_abs (hdv d (by simp)) h0⟩
  · rw [e]; exact gcdL_div h0
  · rw [e]
    intro i hi
    obtain ⟨j, hj, rfl⟩ := List.mem_map.mp hi
    exact Nat.lt_of_le_of_lt (fdiv_abs (hdv j hj) h0) (hb j hj)
theorem sem_law_lowest (n : Nat) (as : List Int) (c d : Int) (hl : as.length ≤ 900) (hd : 1 ≤ d) : tab.sem (n + 2) 75 [.lst ((as ++ [c, d]).map D.int)] = .ok (encF (lowF as c d), false, .non) := by
  rw [sem0 tab (n + 1) 75 b_75 _ rfl rfl rfl]
  have h0 := low_gcd (as := as) (c := c) hd
  have hsh := sem_law_shared n D.lst (fun _ => rfl) (as ++ [c, d])
  have hg0 : ((gcdL 0 (as ++ [c, d]) : Nat) : Int) ≠ 0 := by omega
  have hc := comp_map (n := n + 1) (v := 2) (e := D.int) (g := fun i => D.int (i.fdiv (gcdL 0 (as ++ [c, d])))) (xs := as ++ [c, d]) (elt := E75_1) (env := [some (.f, .lst ((as ++ [c, d]).map D.int)), some (.f, .int (gcdL 0 (as ++ [c, d]))), none])
    (fun i hi => ⟨false, by simp -implicitDefEqProofs [bin_div_int i _ hg0]⟩) (fun s => by simp)
  have e : encF (lowF as c d) = .tup ((as ++ [c, d]).map fun i => D.int (i.fdiv (gcdL 0 (as ++ [c, d])))) := by simp [encF, lowF]
  have ll : (as ++ [c, d]).length ≤ line := by simp [line]; omega
  rw [e]
  generalize hx : as ++ [c, d] = xs at *
  simp -implicitDefEqProofs [b_75, hsh, hc, ll]
theorem ixZ_nat {n i : Nat} (h : i < n) : ixZ n (i : Int) = some i := by
  unfold ixZ
  rw [if_pos (by omega), if_pos (by omega)]
  simp
theorem ixZ_m1 {n : Nat} (h : 1 ≤ n) : ixZ n (-1) = some (n - 1) := by
  unfold ixZ
  rw [if_neg (by decide), if_pos (by omega)]
  congr 1
  omega
theorem ixZ_m2 {n : Nat} (h : 2 ≤ n) : ixZ n (-2) = some (n - 2) := by
  unfold ixZ
  rw [if_neg (by decide), if_pos (by omega)]
  congr 1
  omega
def geti (xs : List Int) (i : Nat) : Int := xs.getD i 0
theorem at_int {xs : List Int} {i : Nat} (h : i < xs.length) : atZ (xs.map D.int) (i : Int) = some (.int (geti xs i)) := by
  rw [atZ_nat, List.getElem?_map, List.getElem?_eq_getElem h]
  simp [geti, List.getElem?_eq_getElem h]
theorem geti_mem {xs : List Int} {i : Nat} (h : i < xs.length) : geti xs i ∈ xs := by simp [geti, List.getElem?_eq_getElem h]
theorem geti_app {as bs : List Int} {i : Nat} (h : i < as.length) : geti (as ++ bs) i = geti as i := by
  unfold geti
  rw [List.getD_eq_getElem?_getD, List.getD_eq_getElem?_getD, List.getElem?_append_left h]
def mixedF (f : Fo) (a o : Nat) (k m : Int) : Fo := lowF (f.as.set o (geti f.as o - k * geti f.as a)) (f.c - m * geti f.as a) f.d
def joinedF (f g : Fo) (k m : Int) : Fo := lowF (List.zipWith (fun x y => x * g.d + k * y * f.d) f.as g.as) (f.c * g.d + k * g.c * f.d + m * f.d * g.d) (f.d * g.d)
theorem abs_le_bits {x y : Int} {b : Nat} (hx : x.natAbs < 2 ^ b) (hy : y.natAbs ≤ 2) (z : Int) (hz : z.natAbs < 2 ^ b) : (z - y * x).natAbs < 2 ^ (b + 2) := by
  have h1 : (y * x).natAbs ≤ 2 * x.natAbs := by
    rw [Int.natAbs_mul]
    exact Nat.mul_le_mul_right _ hy
  have h2 := Int.natAbs_sub_le z (y * x)
  rw [Nat.pow_add]
  omega
theorem mixedF_ok {size b d : Nat} {f : Fo} (h : OkF size b f) (hd : f.d.natAbs < 2 ^ d) {a o : Nat} (ha : a < size) (ho : o < size) {k m : Int} (hk : k.natAbs ≤ 2) (hm : m.natAbs ≤ 2) : OkF size (b + 2) (mixedF f a o k m) ∧ (mixedF f a o k m).d.natAbs < 2 ^ d := by
  have hl := h.len
  have ga : (geti f.as a).natAbs < 2 ^ b := h.lt _ (List.mem_append_left _ (geti_mem (by omega)))
  have go : (geti f.as o).natAbs < 2 ^ b := h.lt _ (List.mem_append_left _ (geti_mem (by omega)))
  have hc : f.c.natAbs < 2 ^ b := h.lt _ (by simp)
  have := lowF_ok (as := f.as.set o (geti f.as o - k * geti f.as a)) (c := f.c - m * geti f.as a) (d := f.d) (b := b + 2) h.dpos (fun i hi => by
    rcases List.mem_append.mp hi with hi | hi
    · rcases List.mem_or_eq_of_mem_set hi with hi | hi
      · exact lt_up (h.lt i (List.mem_append_left _ hi)) (by omega)
      · rw [hi]; exact abs_le_bits ga hk _ go
    · simp at hi
      rcases hi with rfl | rfl
      · exact abs_le_bits ga hm _ hc
      · exact lt_up h.dlt (by omega))
  rw [List.length_set, hl] at this
  exact ⟨this.1, Nat.lt_of_le_of_lt this.2 hd⟩
theorem joinedF_ok {size b d : Nat} {f g : Fo} (hf : OkF size b f) (hg : OkF size b g) (hfd : f.d.natAbs < 2 ^ d) (hgd : g.d.natAbs < 2 ^ d) (hdb : d ≤ b) {k m : Int} (hk : k.natAbs ≤ 2) (hm : m.natAbs ≤ 2) : OkF size (b + d + 3) (joinedF f g k m) ∧ (joinedF f g k m).d.natAbs < 2 ^ (2 * d) := by
  have hdd : (f.d * g.d).natAbs < 2 ^ (2 * d) := by rw [show 2 * d = d + d by omega]; exact natAbs_mul_lt hfd hgd
  have hpos : 1 ≤ f.d * g.d := by
    have := Int.mul_pos (show 0 < f.d by have := hf.dpos; omega) (show 0 < g.d by have := hg.dpos; omega)
    omega
  have two : ∀ {x y : Int}, x.natAbs < 2 ^ b → y.natAbs < 2 ^ b → (x * g.d + k * y * f.d).natAbs ≤ 3 * 2 ^ (b + d) := fun {x y} hx hy => by
    have h1 := natAbs_mul_lt hx hgd
    have h2 := natAbs_mul_lt hy hfd
    have h3 : (k * y * f.d).natAbs ≤ 2 * (y * f.d).natAbs := by
      rw [Int.mul_assoc, Int.natAbs_mul]
      exact Nat.mul_le_mul_right _ hk
    have h4 := Int.natAbs_add_le (x * g.d) (k * y * f.d)
    omega
  have h8 : 2 ^ (b + d + 3) = 8 * 2 ^ (b + d) := by rw [Nat.pow_add]; omega
  have hpp : 0 < 2 ^ (b + d) := Nat.pow_pos (by omega)
  have := lowF_ok (as := List.zipWith (fun x y => x * g.d + k * y * f.d) f.as g.as) (c := f.c * g.d + k * g.c * f.d + m * f.d * g.d) (d := f.d * g.d) (b := b + d + 3) hpos (fun i hi => by
    rcases List.mem_append.mp hi with hi | hi
    · obtain ⟨x, y, hx, hy, rfl⟩ : ∃ x y, x ∈ f.as ∧ y ∈ g.as ∧ i = x * g.d + k * y * f.d := by
        have gen : ∀ (xs ys : List Int), i ∈ List.zipWith (fun x y => x * g.d + k * y * f.d) xs ys → ∃ x y, x ∈ xs ∧ y ∈ ys ∧ i = x * g.d + k * y * f.d := by
          intro xs
          induction xs with
          | nil => intro ys h; simp at h
          | cons x xs ih =>
            intro ys h
            cases ys with
            | nil => simp at h
            | cons y ys =>
              simp only [List.zipWith_cons_cons, List.mem_cons] at h
              rcases h with h | h
              · exact ⟨x, y, by simp, by simp, h⟩
              · obtain ⟨x', y', h1, h2, h3⟩ := ih ys h
                exact ⟨x', y', by simp [h1], by simp [h2], h3⟩
        exact gen _ _ hi
      have := two (hf.lt x (List.mem_append_left _ hx)) (hg.lt y (List.mem_append_left _ hy))
      omega
    · simp at hi
      rcases hi with rfl | rfl
      · have h1 := two (hf.lt f.c (by simp)) (hg.lt g.c (by simp))
        have h2 : (m * f.d * g.d).natAbs ≤ 2 * (f.d * g.d).natAbs := by
          rw [Int.mul_assoc, Int.natAbs_mul]
          exact Nat.mul_le_mul_right _ hm
        have h3 := Int.natAbs_add_le (f.c * g.d + k * g.c * f.d) (m * f.d * g.d)
        have h4 : 2 ^ (2 * d) ≤ 2 ^ (b + d) := pow_le_pow2 (by omega)
        omega
      · exact lt_up hdd (by omega))
  have el : (List.zipWith (fun x y => x * g.d + k * y * f.d) f.as g.as).length = size := by rw [List.length_zipWith, hf.len, hg.len]; omega
  rw [el] at this
  exact ⟨this.1, Nat.lt_of_le_of_lt this.2 hdd⟩
theorem mulOk_b {i j : Int} {b c : Nat} (hi : i.natAbs < 2 ^ b) (hj : j.natAbs < 2 ^ c) (h : b + c < 134000000) : mulOk i j = true := mulOk_of hi hj h
theorem set_int (xs : List Int) (i : Nat) (v : Int) (h : i < xs.length) : setD (.lst (xs.map D.int)) (.int i) (.int v) = some (.lst ((xs.set i v).map D.int)) := by
  show (ixZ (xs.map D.int).length (i : Int)).map _ = _
  rw [List.length_map, ixZ_nat h]
  simp
theorem set_intm (xs : List Int) (k : Int) (i : Nat) (v : Int) (h : ixZ xs.length k = some i) : setD (.lst (xs.map D.int)) (.int k) (.int v) = some (.lst ((xs.set i v).map D.int)) := by
  show (ixZ (xs.map D.int).length k).map _ = _
  rw [List.length_map, h]
  simp
theorem at_intm (xs : List Int) (k : Int) (i : Nat) (h : ixZ xs.length k = some i) (hi : i < xs.length) : atZ (xs.map D.int) k = some (.int (geti xs i)) := by
  unfold atZ
  rw [List.length_map, h]
  simp [geti, hi]
theorem ix_F {f : Fo} {i : Nat} (h : i < f.as.length) : ixD (encF f) (.int i) = some (.int (geti f.as i)) := by
  show atZ ((f.as ++ [f.c, f.d]).map D.int) (i : Int) = _
  rw [at_int (by simp; omega), geti_app h]
theorem ix_Fd (f : Fo) : ixD (encF f) (.int (-1)) = some (.int f.d) := by
  show atZ ((f.as ++ [f.c, f.d]).map D.int) (-1) = _
  rw [at_intm _ _ (f.as.length + 1) (by rw [ixZ_m1 (by simp)]; simp) (by simp)]
  simp [geti]
theorem sem_law_mixed (n : Nat) {size b : Nat} {f : Fo} (h : OkF size b f) (hs : size ≤ 900) (hb : b ≤ 60000000) {a o : Nat} (ha : a < size) (ho : o < size) {k m : Int} (hk : k.natAbs ≤ 2) (hm : m.natAbs ≤ 2) : tab.sem (n + 3) 76 [encF f, .int a, .int o, .int k, .int m] = .ok (encF (mixedF f a o k m), false, .non) := by
  rw [sem0 tab (n + 2) 76 b_76 _ rfl rfl rfl]
  have hl := h.len
  have ga : (geti f.as a).natAbs < 2 ^ b := h.lt _ (List.mem_append_left _ (geti_mem (by omega)))
  have m1 := bin_mul_int k (geti f.as a) (mulOk_b (b := 2) (c := b) (by simp; omega) ga (by omega))
  have m2 := bin_mul_int m (geti f.as a) (mulOk_b (b := 2) (c := b) (by simp; omega) ga (by omega))
  have xa := ix_F (f := f) (i := a) (by omega)
  have t0 : biD .list [encF f] = some (.lst ((f.as ++ [f.c, f.d]).map D.int), true) := rfl
  have at1 : atZ ((f.as ++ [f.c, f.d]).map D.int) (o : Int) = some (.int (geti f.as o)) := by rw [at_int (by simp; omega), geti_app (by omega)]
  have s1 := set_int (f.as ++ [f.c, f.d]) o (geti f.as o - k * geti f.as a) (by simp; omega)
  have e1 : (f.as ++ [f.c, f.d]).set o (geti f.as o - k * geti f.as a) = f.as.set o (geti f.as o - k * geti f.as a) ++ [f.c, f.d] := by rw [List.set_append, if_pos (by omega)]
  rw [e1] at s1
  have z2 : ixZ (f.as.set o (geti f.as o - k * geti f.as a) ++ [f.c, f.d]).length (-2) = some f.as.length := by rw [ixZ_m2 (by simp)]; simp
  have at2 := at_intm (f.as.set o (geti f.as o - k * geti f.as a) ++ [f.c, f.d]) (-2) f.as.length z2 (by simp)
  have g2 : geti (f.as.set o (geti f.as o - k * geti f.as a) ++ [f.c, f.d]) f.as.length = f.c := by simp [geti, List.getElem?_append_right]
  rw [g2] at at2
  have s2 := set_intm (f.as.set o (geti f.as o - k * geti f.as a) ++ [f.c, f.d]) (-2) f.as.length (f.c - m * geti f.as a) z2
  have e2 : (f.as.set o (geti f.as o - k * geti f.as a) ++ [f.c, f.d]).set f.as.length (f.c - m * geti f.as a) = f.as.set o (geti f.as o - k * geti f.as a) ++ [f.c - m * geti f.as a, f.d] := by
    rw [List.set_append, if_neg (by simp)]
    simp
  rw [e2] at s2
  have lw := sem_law_lowest n (f.as.set o (geti f.as o - k * geti f.as a)) (f.c - m * geti f.as a) f.d (by simp; omega) h.dpos
  have em : encF (mixedF f a o k m) = encF (lowF (f.as.set o (geti f.as o - k * geti f.as a)) (f.c - m * geti f.as a) f.d) := rfl
  rw [em]
  generalize hr1 : (f.as ++ [f.c, f.d]).map D.int = r1 at *
  generalize hr2 : (f.as.set o (geti f.as o - k * geti f.as a) ++ [f.c, f.d]).map D.int = r2 at *
  generalize hr3 : (f.as.set o (geti f.as o - k * geti f.as a) ++ [f.c - m * geti f.as a, f.d]).map D.int = r3 at *
  simp -implicitDefEqProofs [b_76, t0, at1, m1, m2, xa, s1, at2, s2, lw, knd]
theorem sem_law_joined (n : Nat) {size b : Nat} {f g : Fo} (hf : OkF size b f) (hg : OkF size b g) (hs : size ≤ 900) (hb : b ≤ 30000000) {k m : Int} (hk : k.natAbs ≤ 2) (hm : m.natAbs ≤ 2) : tab.sem (n + 3) 77 [encF f, encF g, .int k, .int m] = .ok (encF (joinedF f g k m), false, .non) := by
  rw [sem0 tab (n + 2) 77 b_77 _ rfl rfl rfl]
  have hlf := hf.len
  have hlg := hg.len
  have xf := ix_Fd f
  have xg := ix_Fd g
  have sf : slD (encF f) none (some (-1)) = some (.tup (f.as.map D.int ++ [.int f.c]), false) := by
    rw [encF_eq]
    show some (D.tup (cut _ none (some (-1))), false) = _
    rw [cut_init2]
  have sg : slD (encF g) none (some (-1)) = some (.tup (g.as.map D.int ++ [.int g.c]), false) := by
    rw [encF_eq]
    show some (D.tup (cut _ none (some (-1))), false) = _
    rw [cut_init2]
  have bits : ∀ {x y : Int}, x.natAbs < 2 ^ b → y.natAbs < 2 ^ b → binD .mul (.int x) (.int y) = some (.int (x * y), false) := fun {x y} hx hy => bin_mul_int x y (mulOk_b hx hy (by omega))
  have bits2 : ∀ {x y : Int}, x.natAbs < 2 ^ (b + 2) → y.natAbs < 2 ^ b → binD .mul (.int x) (.int y) = some (.int (x * y), false) := fun {x y} hx hy => bin_mul_int x y (mulOk_b hx hy (by omega))
  have kb : ∀ {x : Int}, x.natAbs < 2 ^ b → (k * x).natAbs < 2 ^ (b + 2) ∧ binD .mul (.int k) (.int x) = some (.int (k * x), false) := fun {x} hx => by
    refine ⟨?_, bin_mul_int k x (mulOk_b (b := 2) (c := b) (by simp; omega) hx (by omega))⟩
    rw [Int.natAbs_mul, Nat.add_comm, Nat.pow_add]
    exact Nat.mul_lt_mul_of_le_of_lt (by omega) hx (by omega)
  have mb : ∀ {x : Int}, x.natAbs < 2 ^ b → (m * x).natAbs < 2 ^ (b + 2) ∧ binD .mul (.int m) (.int x) = some (.int (m * x), false) := fun {x} hx => by
    refine ⟨?_, bin_mul_int m x (mulOk_b (b := 2) (c := b) (by simp; omega) hx (by omega))⟩
    rw [Int.natAbs_mul, Nat.add_comm, Nat.pow_add]
    exact Nat.mul_lt_mul_of_le_of_lt (by omega) hx (by omega)
  have hc := compL_map (e := fun p : Int × Int => D.tup [.int p.1, .int p.2]) (g := fun p : Int × Int => D.int (p.1 * g.d + k * p.2 * f.d)) (vs := [5, 6]) (ft := tF (.tp [.nm 5, .nm 6])) (fi := iF (tab.gl (n + 2)) []) (fe := xF (tab.gl (n + 2)) E77_1)
    (env := [some (.f, encF f), some (.f, encF g), some (.f, .int k), some (.f, .int m), none, none, none]) (xs := List.zip (f.as ++ [f.c]) (g.as ++ [g.c])) fun p hp => by
      have m1 : p.1.natAbs < 2 ^ b := hf.lt p.1 (by have := (List.of_mem_zip hp).1; simp at this ⊢; rcases this with h | h <;> simp [h])
      have m2 : p.2.natAbs < 2 ^ b := hg.lt p.2 (by have := (List.of_mem_zip hp).2; simp at this ⊢; rcases this with h | h <;> simp [h])
      have q1 := bits m1 hg.dlt
      have q2 := (kb m2).2
      have q3 := bits2 (kb m2).1 hf.dlt
      exact ⟨[some (.f, encF f), some (.f, encF g), some (.f, .int k), some (.f, .int m), none, some (.f, .int p.1), some (.f, .int p.2)], [some (.f, encF f), some (.f, encF g), some (.f, .int k), some (.f, .int m), none, some (.f, .int p.1), some (.f, .int p.2)], false, [some (.f, encF f), some (.f, encF g), some (.f, .int k), some (.f, .int m), none, some (.f, .int p.1), some (.f, .int p.2)], by simp, rfl, by simp -implicitDefEqProofs [xf, xg, q1, q2, q3], by simp⟩
  have ez : zipD (f.as.map D.int ++ [.int f.c]) (g.as.map D.int ++ [.int g.c]) = (List.zip (f.as ++ [f.c]) (g.as ++ [g.c])).map fun p : Int × Int => D.tup [.int p.1, .int p.2] := by
    have e1 : f.as.map D.int ++ [.int f.c] = (f.as ++ [f.c]).map D.int := by simp
    have e2 : g.as.map D.int ++ [.int g.c] = (g.as ++ [g.c]).map D.int := by simp
    rw [e1, e2, zipD_map]
  rw [← ez] at hc
  have er : ((List.zip (f.as ++ [f.c]) (g.as ++ [g.c])).map fun p : Int × Int => D.int (p.1 * g.d + k * p.2 * f.d)) = (List.zipWith (fun x y => x * g.d + k * y * f.d) f.as g.as ++ [f.c * g.d + k * g.c * f.d]).map D.int := by
    rw [List.zip, List.zipWith_append (by rw [hlf, hlg]), List.map_append, List.map_append, List.map_zipWith, List.map_zipWith, List.map_zipWith]
    rfl
  rw [er] at hc
  generalize hZ : List.zipWith (fun x y => x * g.d + k * y * f.d) f.as g.as = Z at *
  have hZl : Z.length = size := by rw [← hZ, List.length_zipWith, hlf, hlg]; omega
  have z1 : ixZ (Z ++ [f.c * g.d + k * g.c * f.d]).length (-1) = some Z.length := by rw [ixZ_m1 (by simp)]; simp
  have at1 := at_intm (Z ++ [f.c * g.d + k * g.c * f.d]) (-1) Z.length z1 (by simp)
  have g1 : geti (Z ++ [f.c * g.d + k * g.c * f.d]) Z.length = f.c * g.d + k * g.c * f.d := by simp [geti, List.getElem?_append_right]
  rw [g1] at at1
  have s1 := set_intm (Z ++ [f.c * g.d + k * g.c * f.d]) (-1) Z.length (f.c * g.d + k * g.c * f.d + m * f.d * g.d) z1
  have e1 : (Z ++ [f.c * g.d + k * g.c * f.d]).set Z.length (f.c * g.d + k * g.c * f.d + m * f.d * g.d) = Z ++ [f.c * g.d + k * g.c * f.d + m * f.d * g.d] := by
    rw [List.set_append, if_neg (by omega)]
    simp
  rw [e1] at s1
  have q4 := (mb hf.dlt).2
  have q5 := bits2 (mb hf.dlt).1 hg.dlt
  have q6 := bits hf.dlt hg.dlt
  have l1 : 1 ≤ line := by decide
  have ad := add_lst ((Z ++ [f.c * g.d + k * g.c * f.d + m * f.d * g.d]).map D.int) [.int (f.d * g.d)] (by simp [line, hZl]; omega)
  have e3 : (Z ++ [f.c * g.d + k * g.c * f.d + m * f.d * g.d]).map D.int ++ [.int (f.d * g.d)] = (Z ++ [f.c * g.d + k * g.c * f.d + m * f.d * g.d, f.d * g.d]).map D.int := by simp
  rw [e3] at ad
  have hpos : 1 ≤ f.d * g.d := by
    have := Int.mul_pos (show 0 < f.d by have := hf.dpos; omega) (show 0 < g.d by have := hg.dpos; omega)
    omega
  have lw := sem_law_lowest n Z (f.c * g.d + k * g.c * f.d + m * f.d * g.d) (f.d * g.d) (by omega) hpos
  have em : encF (joinedF f g k m) = encF (lowF Z (f.c * g.d + k * g.c * f.d + m * f.d * g.d) (f.d * g.d)) := by unfold joinedF; rw [hZ]
  rw [em]
  have lz : (Z ++ [f.c * g.d + k * g.c * f.d]).length ≤ line := by simp [line, hZl]; omega
  have lz2 : ((Z ++ [f.c * g.d + k * g.c * f.d]).map D.int).length ≤ line := by simpa using lz
  generalize hr1 : (Z ++ [f.c * g.d + k * g.c * f.d]).map D.int = r1 at *
  generalize hr2 : (Z ++ [f.c * g.d + k * g.c * f.d + m * f.d * g.d]).map D.int = r2 at *
  generalize hr3 : (Z ++ [f.c * g.d + k * g.c * f.d + m * f.d * g.d, f.d * g.d]).map D.int = r3 at *
  simp -implicitDefEqProofs [b_77, xf, xg, sf, sg, hc, at1, s1, q4, q5, q6, l1, ad, lw, lz2, optI, isNo, knd]
end PK
end
section
set_option linter.all false
set_option maxRecDepth 100000
set_option maxHeartbeats 1000000
/-! PkW2: the laws' make with a register made larger by another one. -/
namespace PK
theorem foldl_snoc {α β : Type} (f : α → β) : ∀ (xs : List α) (acc : List β), xs.foldl (fun l x => l ++ [f x]) acc = acc ++ xs.map f
  | [], acc => by simp
  | x :: xs, acc => by
    rw [List.foldl_cons, foldl_snoc f xs]
    simp
def getF (l : List Fo) (a : Nat) : Fo := l.getD a fo0
def mixL (fs : List Fo) (a o : Nat) (k e : Int) : List Fo := fs.map fun f => mixedF f a o k e
def turnL (fs : List Fo) (a o : Nat) (k e : Int) : List Fo := (mixL fs a o k e).set a (joinedF (getF (mixL fs a o k e) a) (getF (mixL fs a o k e) o) k e)
def turnP (p : Pha) (a o : Nat) (k e : Int) : Pha := (mixedF p.1 a o k e, p.2.map fun v => (v.1, turnL v.2 a o k e))
def turnM (m : Mke) (a o : Nat) (k e : Int) : Mke := ⟨m.st, m.vals.set a (nth m.vals a + (k * nth m.vals o + e)), m.phs.map fun p => turnP p a o k e⟩
theorem at_F {l : List Fo} {a : Nat} (h : a < l.length) : atZ (l.map encF) (a : Int) = some (encF (getF l a)) := by
  rw [atZ_nat, List.getElem?_map, List.getElem?_eq_getElem h]
  simp [getF, List.getElem?_eq_getElem h]
theorem getF_mem {l : List Fo} {a : Nat} (h : a < l.length) : getF l a ∈ l := by simp [getF, List.getElem?_eq_getElem h]
theorem set_F (l : List Fo) (a : Nat) (g : Fo) (h : a < l.length) : setD (.lst (l.map encF)) (.int a) (encF g) = some (.lst ((l.set a g).map encF)) := by
  show (ixZ (l.map encF).length (a : Int)).map _ = _
  rw [List.length_map, ixZ_nat h]
  simp
@[simp] theorem asg_encPh (i j : Nat) (p : Pha) (fr : Bool) (e : Env) : asg (.tp [.nm i, .nm j]) (encPh p) fr e = .ok (put (put e i (some (.f, encF p.1))) j (some (.f, .tup (p.2.map encMv)))) := rfl
@[simp] theorem asg_encMk (i j k : Nat) (m : Mke) (fr : Bool) (e : Env) : asg (.tp [.nm i, .nm j, .nm k]) (encMk m) fr e = .ok (put (put (put e i (some (.f, .int m.st))) j (some (.f, .tup (m.vals.map frac)))) k (some (.f, .tup (m.phs.map encPh)))) := rfl
section
variable {m : Mke} {size phases count b B d : Nat}
theorem turnL_ok {fs : List Fo} (h : ∀ f ∈ fs, OkF size b f) (hd : ∀ f ∈ fs, f.d.natAbs < 2 ^ d) (hdb : d ≤ b) (hl : fs.length = size) {a o : Nat} (ha : a < size) (ho : o < size) {k e : Int} (hk : k.natAbs ≤ 2) (he : e.natAbs ≤ 2) : (∀ f ∈ turnL fs a o k e, OkF size (b + d + 5) f ∧ f.d.natAbs < 2 ^ (2 * d)) ∧ (turnL fs a o k e).length = size := by
  have h1 : ∀ f ∈ mixL fs a o k e, OkF size (b + 2) f ∧ f.d.natAbs < 2 ^ d := fun f hf => by
    obtain ⟨g, hg, rfl⟩ := List.mem_map.mp hf
    exact mixedF_ok (h g hg) (hd g hg) ha ho hk he
  have ml : (mixL fs a o k e).length = size := by simp [mixL, hl]
  refine ⟨fun f hf => ?_, by simp [turnL, ml]⟩
  rcases List.mem_or_eq_of_mem_set hf with hf | hf
  · exact ⟨(h1 f hf).1.mono (by omega), lt_up (h1 f hf).2 (by omega)⟩
  · rw [hf]
    have ga := h1 _ (getF_mem (l := mixL fs a o k e) (a := a) (by omega))
    have go := h1 _ (getF_mem (l := mixL fs a o k e) (a := o) (by omega))
    have := joinedF_ok ga.1 go.1 ga.2 go.2 (by omega) hk he
    exact ⟨this.1.mono (by omega), this.2⟩
theorem turnM_ok (h : WF m size phases count b B) (hd : Dn m d) (hdb : d ≤ b) {a o : Nat} (ha : a < size) (ho : o < size) {k e : Int} (hk : k.natAbs ≤ 2) (he : e.natAbs ≤ 2) : WF (turnM m a o k e) size phases count (b + d + 5) (B + 3) ∧ Dn (turnM m a o k e) (2 * d) := by
  constructor
  · refine { st := h.st, vlen := by simp [turnM, h.vlen], vbd := ?_, plen := by simp [turnM, h.plen], shn := fun p hp => ?_, mvs := fun p hp => ?_, nxt := fun p hp v hv => ?_, sz := h.sz, p1 := h.p1, p5 := h.p5, c1 := h.c1, c5 := h.c5, b1 := by have := h.b1; omega }
    · obtain ⟨f, hf, hfb, hv⟩ := h.vbd
      refine ⟨f, hf, lt_up hfb (by omega), fun q hq => ?_⟩
      rcases List.mem_or_eq_of_mem_set hq with hq | hq
      · obtain ⟨x, hx, hxb⟩ := hv q hq
        exact ⟨x, hx, lt_up hxb (by omega)⟩
      · obtain ⟨x, hx, hxb⟩ := hv (nth m.vals a) (nth_mem (by rw [h.vlen]; exact ha))
        obtain ⟨y, hy, hyb⟩ := hv (nth m.vals o) (nth_mem (by rw [h.vlen]; exact ho))
        refine ⟨x + (k * y + e * f), ?_, ?_⟩
        · rw [hq]
          simp only [cast_add, cast_mul, ← hx, ← hy]
          grind
        · have h1 : (k * y).natAbs ≤ 2 * y.natAbs := by rw [Int.natAbs_mul]; exact Nat.mul_le_mul_right _ hk
          have h2 : (e * f).natAbs ≤ 2 * f.natAbs := by rw [Int.natAbs_mul]; exact Nat.mul_le_mul_right _ he
          have h3 := Int.natAbs_add_le x (k * y + e * f)
          have h4 := Int.natAbs_add_le (k * y) (e * f)
          rw [Nat.pow_add]
          omega
    · obtain ⟨p, hp0, rfl⟩ := List.mem_map.mp hp
      exact (mixedF_ok (h.shn p hp0) (hd p hp0).1 ha ho hk he).1.mono (by omega)
    · obtain ⟨p, hp0, rfl⟩ := List.mem_map.mp hp
      simp [turnP, h.mvs p hp0]
    · obtain ⟨p, hp0, rfl⟩ := List.mem_map.mp hp
      obtain ⟨v, hv0, rfl⟩ := List.mem_map.mp hv
      obtain ⟨n1, n2, n3⟩ := h.nxt p hp0 v hv0
      have := turnL_ok n3 ((hd p hp0).2 v hv0) hdb n2 ha ho hk he
      exact ⟨n1, this.2, fun f hf => (this.1 f hf).1⟩
  · intro p hp
    obtain ⟨p, hp0, rfl⟩ := List.mem_map.mp hp
    refine ⟨lt_up (mixedF_ok (h.shn p hp0) (hd p hp0).1 ha ho hk he).2 (by omega), fun v hv f hf => ?_⟩
    obtain ⟨v, hv0, rfl⟩ := List.mem_map.mp hv
    obtain ⟨n1, n2, n3⟩ := h.nxt p hp0 v hv0
    exact ((turnL_ok n3 ((hd p hp0).2 v hv0) hdb n2 ha ho hk he).1 f hf).2
theorem inner78 (n : Nat) (hs : size ≤ 4) (hb : b + d ≤ 10000000) (hdb : d ≤ b) {a o : Nat} (ha : a < size) (ho : o < size) {k e : Int} (hk : k.natAbs ≤ 2) (he : e.natAbs ≤ 2) (x0 x1 x4 x5 x6 x7 x10 x11 x12 : Slot) (vs : List Mov) (hv : ∀ v ∈ vs, v.2.length = size ∧ ∀ f ∈ v.2, OkF size b f ∧ f.d.natAbs < 2 ^ d) (hvl : vs.length ≤ 1000) (y14 y15 y16 : Slot) :
    ∃ z14 z15 z16, forL (tF (.tp [(.nm 14), (.nm 15)])) (bF (tab.gl (n + 3)) L78_1) (vs.map encMv) [x0, x1, some (.f, .int a), some (.f, .int o), x4, x5, x6, x7, some (.f, .int k), some (.f, .int e), x10, x11, x12, some (.o, .lst []), y14, y15, y16, none] =
      .ok (.nx [x0, x1, some (.f, .int a), some (.f, .int o), x4, x5, x6, x7, some (.f, .int k), some (.f, .int e), x10, x11, x12, some (.o, .lst ((vs.map fun v => ((v.1, turnL v.2 a o k e) : Mov)).map encMv)), z14, z15, z16, none]) := by
  obtain ⟨env', q, hlen, z14, z15, z16, rfl⟩ := forL_rel (ft := tF (.tp [(.nm 14), (.nm 15)])) (fb := bF (tab.gl (n + 3)) L78_1) (e := encMv) (xs := vs) (i := 0) (b := ([] : List Mov)) (env := [x0, x1, some (.f, .int a), some (.f, .int o), x4, x5, x6, x7, some (.f, .int k), some (.f, .int e), x10, x11, x12, some (.o, .lst []), y14, y15, y16, none])
    (fun j (l : List Mov) env => l.length ≤ j ∧ ∃ z14 z15 z16, env = [x0, x1, some (.f, .int a), some (.f, .int o), x4, x5, x6, x7, some (.f, .int k), some (.f, .int e), x10, x11, x12, some (.o, .lst (l.map encMv)), z14, z15, z16, none])
    (fun l v => l ++ [(v.1, turnL v.2 a o k e)])
    (fun v hvm j l env hj hj2 ⟨hl, z14, z15, z16, hE⟩ => by
      subst hE
      obtain ⟨n2, n3⟩ := hv v hvm
      have hc := comp_map (n := n + 3) (v := 17) (e := encF) (g := fun f => encF (mixedF f a o k e)) (xs := v.2) (elt := E78_1) (env := [x0, x1, some (.f, .int a), some (.f, .int o), x4, x5, x6, x7, some (.f, .int k), some (.f, .int e), x10, x11, x12, some (.o, .lst (l.map encMv)), some (.f, .int v.1), some (.f, .tup (v.2.map encF)), z16, none])
        (fun f hf => ⟨false, by
          have q := sem_law_mixed n (n3 f hf).1 (by omega) (by omega) ha ho hk he
          simp -implicitDefEqProofs [q]⟩) (fun s => by simp)
      have ec : (v.2.map fun f => encF (mixedF f a o k e)) = (mixL v.2 a o k e).map encF := by simp [mixL, List.map_map, Function.comp_def]
      rw [ec] at hc
      have ml : (mixL v.2 a o k e).length = size := by simp [mixL, n2]
      have mok : ∀ f ∈ mixL v.2 a o k e, OkF size (b + 2) f := fun f hf => by
        obtain ⟨g, hg, rfl⟩ := List.mem_map.mp hf
        exact (mixedF_ok (n3 g hg).1 (n3 g hg).2 ha ho hk he).1
      have xa := at_F (l := mixL v.2 a o k e) (a := a) (by omega)
      have xo := at_F (l := mixL v.2 a o k e) (a := o) (by omega)
      have qj := sem_law_joined n (mok _ (getF_mem (l := mixL v.2 a o k e) (a := a) (by omega))) (mok _ (getF_mem (l := mixL v.2 a o k e) (a := o) (by omega))) (by omega) (by omega) hk he
      have qs := set_F (mixL v.2 a o k e) a (joinedF (getF (mixL v.2 a o k e) a) (getF (mixL v.2 a o k e) o) k e) (by omega)
      have el : ((mixL v.2 a o k e).set a (joinedF (getF (mixL v.2 a o k e) a) (getF (mixL v.2 a o k e) o) k e)) = turnL v.2 a o k e := rfl
      rw [el] at qs
      have lm : (mixL v.2 a o k e).length ≤ line := by rw [ml]; simp only [line]; omega
      have l2 : 2 ≤ line := by decide
      have ap := app_lst (l.map encMv) (encMv (v.1, turnL v.2 a o k e)) (by simp [line]; omega)
      have em : encMv (v.1, turnL v.2 a o k e) = .tup [.int v.1, .tup ((turnL v.2 a o k e).map encF)] := rfl
      have ev : (l ++ [(v.1, turnL v.2 a o k e)]).map encMv = l.map encMv ++ [encMv (v.1, turnL v.2 a o k e)] := by simp
      refine ⟨[x0, x1, some (.f, .int a), some (.f, .int o), x4, x5, x6, x7, some (.f, .int k), some (.f, .int e), x10, x11, x12, some (.o, .lst (l.map encMv)), some (.f, .int v.1), some (.f, .tup (v.2.map encF)), z16, none], [x0, x1, some (.f, .int a), some (.f, .int o), x4, x5, x6, x7, some (.f, .int k), some (.f, .int e), x10, x11, x12, some (.o, .lst ((l ++ [(v.1, turnL v.2 a o k e)]).map encMv)), some (.f, .int v.1), some (.f, .tup (v.2.map encF)), some (.o, .lst ((turnL v.2 a o k e).map encF)), none], by simp, ?_, by simp; omega, _, _, _, rfl⟩
      rw [ev]
      rw [em] at ap ⊢
      simp -implicitDefEqProofs [hc, lm, xa, xo, qj, qs, l2, ap, knd]) ⟨by simp, y14, y15, y16, rfl⟩
  have e2 := foldl_snoc (fun v : Mov => ((v.1, turnL v.2 a o k e) : Mov)) vs []
  rw [List.nil_append] at e2
  rw [e2] at q
  exact ⟨z14, z15, z16, q⟩
theorem loop78 (n : Nat) (h : WF m size phases count b B) (hd : Dn m d) (hb : b + d ≤ 10000000) (hdb : d ≤ b) {a o : Nat} (ha : a < size) (ho : o < size) {k e : Int} (hk : k.natAbs ≤ 2) (he : e.natAbs ≤ 2) (x0 x1 x4 x5 x6 x7 : Slot) :
    ∃ z11 z12 z13 z14 z15 z16, forL (tF (.tp [(.nm 11), (.nm 12)])) (bF (tab.gl (n + 3)) L78_2) (m.phs.map encPh) [x0, x1, some (.f, .int a), some (.f, .int o), x4, x5, x6, x7, some (.f, .int k), some (.f, .int e), some (.o, .lst []), none, none, none, none, none, none, none] =
      .ok (.nx [x0, x1, some (.f, .int a), some (.f, .int o), x4, x5, x6, x7, some (.f, .int k), some (.f, .int e), some (.o, .lst ((m.phs.map fun p => turnP p a o k e).map encPh)), z11, z12, z13, z14, z15, z16, none]) := by
  have hs := h.sz
  have hc5 := h.c5
  have hp5 := h.p5
  have hpl := h.plen
  obtain ⟨env', q, hlen, z11, z12, z13, z14, z15, z16, rfl⟩ := forL_rel (ft := tF (.tp [(.nm 11), (.nm 12)])) (fb := bF (tab.gl (n + 3)) L78_2) (e := encPh) (xs := m.phs) (i := 0) (b := ([] : List Pha)) (env := [x0, x1, some (.f, .int a), some (.f, .int o), x4, x5, x6, x7, some (.f, .int k), some (.f, .int e), some (.o, .lst []), none, none, none, none, none, none, none])
    (fun j (l : List Pha) env => l.length ≤ j ∧ ∃ z11 z12 z13 z14 z15 z16, env = [x0, x1, some (.f, .int a), some (.f, .int o), x4, x5, x6, x7, some (.f, .int k), some (.f, .int e), some (.o, .lst (l.map encPh)), z11, z12, z13, z14, z15, z16, none])
    (fun l p => l ++ [turnP p a o k e])
    (fun p hp j l env hj hj2 ⟨hl, z11, z12, z13, z14, z15, z16, hE⟩ => by
      subst hE
      obtain ⟨w14, w15, w16, qi⟩ := inner78 n hs hb hdb ha ho hk he x0 x1 x4 x5 x6 x7 (some (.o, .lst (l.map encPh))) (some (.f, encF p.1)) (some (.f, .tup (p.2.map encMv))) p.2 (fun v hv => ⟨(h.nxt p hp v hv).2.1, fun f hf => ⟨(h.nxt p hp v hv).2.2 f hf, (hd p hp).2 v hv f hf⟩⟩) (by rw [h.mvs p hp]; omega) z14 z15 z16
      have qm := sem_law_mixed n (h.shn p hp) (by omega) (by omega) ha ho hk he
      have l2 : 2 ≤ line := by decide
      have l0 : 0 ≤ line := by decide
      have ap := app_lst (l.map encPh) (encPh (turnP p a o k e)) (by simp [line]; omega)
      have em : encPh (turnP p a o k e) = .tup [encF (mixedF p.1 a o k e), .tup ((p.2.map fun v => ((v.1, turnL v.2 a o k e) : Mov)).map encMv)] := rfl
      have ev : (l ++ [turnP p a o k e]).map encPh = l.map encPh ++ [encPh (turnP p a o k e)] := by simp
      refine ⟨[x0, x1, some (.f, .int a), some (.f, .int o), x4, x5, x6, x7, some (.f, .int k), some (.f, .int e), some (.o, .lst (l.map encPh)), some (.f, encF p.1), some (.f, .tup (p.2.map encMv)), z13, z14, z15, z16, none], [x0, x1, some (.f, .int a), some (.f, .int o), x4, x5, x6, x7, some (.f, .int k), some (.f, .int e), some (.o, .lst ((l ++ [turnP p a o k e]).map encPh)), some (.f, encF p.1), some (.f, .tup (p.2.map encMv)), some (.o, .lst ((p.2.map fun v => ((v.1, turnL v.2 a o k e) : Mov)).map encMv)), w14, w15, w16, none], by simp, ?_, by simp; omega, _, _, _, _, _, _, rfl⟩
      rw [ev]
      rw [em] at ap ⊢
      simp -implicitDefEqProofs [-List.map_map, qi, qm, l2, l0, ap, knd]) ⟨by simp, none, none, none, none, none, none, rfl⟩
  have e2 := foldl_snoc (fun p : Pha => turnP p a o k e) m.phs []
  rw [List.nil_append] at e2
  rw [e2] at q
  exact ⟨z11, z12, z13, z14, z15, z16, q⟩
theorem set_cut (xs : List Rat) (a : Nat) (g : Rat) (h : a < xs.length) : xs.take a ++ [g] ++ xs.drop (a + 1) = xs.set a g := by
  rw [List.set_eq_take_append_cons_drop, if_pos h]
  simp
theorem sem_law_turned (n : Nat) (h : WF m size phases count b B) (hd : Dn m d) (hb : b + d ≤ 10000000) (hdb : d ≤ b) (hB : B ≤ 10000000) {s : D} (hs : Src s) : ∃ m' s', tab.sem (n + 4) 78 [s, encMk m] = .ok (encMk m', false, s') ∧ WF m' size phases count (b + d + 5) (B + 3) ∧ Dn m' (2 * d) ∧ Src s' ∧ (m' = m ∨ ∃ a o k e, a < size ∧ o < size ∧ a ≠ o ∧ m' = turnM m a o k e) := by
  rw [sem1 tab (n + 3) 78 b_78 _ _ rfl rfl rfl]
  have hz := h.sz
  have hb1 := h.b1
  have hvl := h.vlen
  by_cases h2 : size < 2
  · refine ⟨m, s, ?_, { h with shn := fun p hp => (h.shn p hp).mono (by omega), nxt := fun p hp v hv => ⟨(h.nxt p hp v hv).1, (h.nxt p hp v hv).2.1, fun f hf => ((h.nxt p hp v hv).2.2 f hf).mono (by omega)⟩, vbd := h.vbd.mono (by omega), b1 := by omega }, fun p hp => ⟨lt_up (hd p hp).1 (by omega), fun v hv f hf => lt_up ((hd p hp).2 v hv f hf) (by omega)⟩, hs, .inl rfl⟩
    have c : (m.vals.length : Int) < 2 := by omega
    simp -implicitDefEqProofs [b_78, c]
  · obtain ⟨a, t1, q1, u1, ht1⟩ := sem_drawN (n + 2) hs (m.vals.length : Int) (by omega)
    obtain ⟨r, t2, q2, u2, ht2⟩ := sem_drawN (n + 2) ht1 ((m.vals.length : Int) - 1) (by omega)
    obtain ⟨k0, t3, q3, u3, ht3⟩ := sem_drawN (n + 2) ht2 5 (by omega)
    obtain ⟨e0, t4, q4, u4, ht4⟩ := sem_drawN (n + 2) ht3 5 (by omega)
    obtain ⟨k, hkk⟩ : ∃ k : Int, (k0 : Int) - 2 = k := ⟨_, rfl⟩
    obtain ⟨e, hee⟩ : ∃ e : Int, (e0 : Int) - 2 = e := ⟨_, rfl⟩
    have hk : k.natAbs ≤ 2 := by omega
    have he : e.natAbs ≤ 2 := by omega
    have ho : ((a : Int) + 1 + r).fmod m.vals.length = (((a + 1 + r) % size : Nat) : Int) := by
      rw [hvl, show ((a : Int) + 1 + r) = ((a + 1 + r : Nat) : Int) by omega, emod_nat]
    generalize hoo : (a + 1 + r) % size = o at ho
    have ho' : o < size := by rw [← hoo]; exact Nat.mod_lt _ (by omega)
    have hao : a ≠ o := by
      intro e3
      rw [← hoo] at e3
      by_cases hh : a + 1 + r < size
      · rw [Nat.mod_eq_of_lt hh] at e3; omega
      · have : (a + 1 + r) % size = a + 1 + r - size := by
          rw [Nat.mod_eq_sub_mod (by omega), Nat.mod_eq_of_lt (by omega)]
        omega
    have ha : a < size := by omega
    have bm := bin_mod_int ((a : Int) + 1 + r) (m.vals.length : Int) (by omega)
    rw [ho] at bm
    obtain ⟨z11, z12, z13, z14, z15, z16, q5⟩ := loop78 n h hd hb hdb ha ho' hk he (some (.io, t4)) (some (.f, encMk m)) none (some (.f, .int m.st)) (some (.f, .tup (m.vals.map frac))) (some (.f, .tup (m.phs.map encPh)))
    refine ⟨turnM m a o k e, t4, ?_, (turnM_ok h hd hdb ha ho' hk he).1, (turnM_ok h hd hdb ha ho' hk he).2, ht4, .inr ⟨a, o, _, _, ha, ho', hao, rfl⟩⟩
    have sza := h.vbd.sz (nth_mem (v := m.vals) (i := a) (by omega))
    have szo := h.vbd.sz (nth_mem (v := m.vals) (i := o) (by omega))
    have si : ∀ i : Int, i.natAbs ≤ 2 → Sz 2 (i : Rat) := fun i hi => ⟨by rw [Rat.num_intCast]; simp; omega, by rw [Rat.den_intCast]; decide⟩
    have p1 := sem_law_times (n + 1) (K := B + 2) (by omega) ((si _ hk).mono (by omega)) (szo.mono (by omega))
    have szp : Sz (B + B + 4) ((k : Rat) * nth m.vals o) := (((si _ hk).mono (by omega : 2 ≤ B + 2)).mul (szo.mono (by omega : B ≤ B + 2))).mono (by omega)
    have p2 := sem_law_sum (n + 1) (K := B + B + 4) (by omega) szp ((si _ he).mono (by omega))
    have szq : Sz (B + B + 10) ((k : Rat) * nth m.vals o + (e : Rat)) := by
      have h1 := si _ he
      obtain ⟨f, hf, hfb, hv⟩ := h.vbd
      obtain ⟨y, hy, hyb⟩ := hv (nth m.vals o) (nth_mem (by omega))
      refine Sz.of_mul (x := k * y + e * f) hf ?_ ?_ (lt_up hfb (by omega))
      · rw [cast_add, cast_mul, cast_mul, ← hy]; grind
      · have g1 : (k * y).natAbs ≤ 2 * y.natAbs := by rw [Int.natAbs_mul]; exact Nat.mul_le_mul_right _ hk
        have g2 : (e * f).natAbs ≤ 2 * f.natAbs := by rw [Int.natAbs_mul]; exact Nat.mul_le_mul_right _ he
        have g3 := Int.natAbs_add_le (k * y) (e * f)
        refine lt_up (A := B + 2) ?_ (by omega)
        rw [Nat.pow_add]
        omega
    have p3 := sem_law_sum (n + 1) (K := B + B + 10) (by omega) (sza.mono (by omega)) szq
    rw [frac_int] at p1 p2
    have xa := at_frac (v := m.vals) (i := a) (by omega)
    have xo := at_frac (v := m.vals) (i := o) (by omega)
    have ct := cut_take (m.vals.map frac) a (by simp; omega)
    have cd := cut_drop (m.vals.map frac) (a + 1) (by simp; omega)
    rw [← List.map_take] at ct
    rw [← List.map_drop] at cd
    have a1 := add_tup ((m.vals.take a).map frac) [frac (nth m.vals a + ((k : Rat) * nth m.vals o + (e : Rat)))] (by simp [line]; omega)
    have a2 := add_tup ((m.vals.take a).map frac ++ [frac (nth m.vals a + ((k : Rat) * nth m.vals o + (e : Rat)))]) ((m.vals.drop (a + 1)).map frac) (by simp [line]; omega)
    have ev : (m.vals.take a).map frac ++ [frac (nth m.vals a + ((k : Rat) * nth m.vals o + (e : Rat)))] ++ (m.vals.drop (a + 1)).map frac = (turnM m a o k e).vals.map frac := by
      have := set_cut m.vals a (nth m.vals a + ((k : Rat) * nth m.vals o + (e : Rat))) (by omega)
      show _ = (m.vals.set a (nth m.vals a + ((k : Rat) * nth m.vals o + (e : Rat)))).map frac
      rw [← this]
      simp
    rw [ev] at a2
    have em : encMk (turnM m a o k e) = .tup [.int m.st, .tup ((turnM m a o k e).vals.map frac), .tup ((m.phs.map fun p => turnP p a o k e).map encPh)] := rfl
    rw [em]
    have c : ¬ (m.vals.length : Int) < 2 := by omega
    have l3 : 3 ≤ line := by decide
    have l2 : 2 ≤ line := by decide
    have l1 : 1 ≤ line := by decide
    have l0 : 0 ≤ line := by decide
    have k1 : ((a : Int) + 1) = ((a + 1 : Nat) : Int) := by omega
    rw [k1] at bm
    simp -implicitDefEqProofs [-List.map_map, -List.map_take, -List.map_drop, -Int.natCast_add, -List.append_assoc, b_78, c, q1, q2, k1, bm, q3, q4, hkk, hee, q5, p1, p2, p3, xa, xo, ct, cd, a1, a2, l3, l2, l1, l0, slD, optI, isNo]
end
end PK
end
section
set_option linter.all false
set_option maxRecDepth 100000
set_option maxHeartbeats 1000000
/-! PkW3: the laws' makes with a further register, phases in another order, a number changed. -/
namespace PK
theorem WF.mono {m : Mke} {size phases count b B b2 B2 : Nat} (h : WF m size phases count b B) (hb : b ≤ b2) (hB : B ≤ B2) : WF m size phases count b2 B2 :=
  { h with shn := fun p hp => (h.shn p hp).mono hb, nxt := fun p hp v hv => ⟨(h.nxt p hp v hv).1, (h.nxt p hp v hv).2.1, fun f hf => ((h.nxt p hp v hv).2.2 f hf).mono hb⟩, vbd := h.vbd.mono hB, b1 := by have := h.b1; omega }
theorem Dn.mono {m : Mke} {d e : Nat} (h : Dn m d) (hl : d ≤ e) : Dn m e := fun p hp => ⟨lt_up (h p hp).1 hl, fun v hv f hf => lt_up ((h p hp).2 v hv f hf) hl⟩
/-! ### a further register -/
theorem gcdL_app : ∀ (as bs : List Int) (g : Nat), gcdL g (as ++ bs) = gcdL (gcdL g as) bs
  | [], bs, g => rfl
  | a :: as, bs, g => by simp only [List.cons_append, gcdL]; exact gcdL_app as bs _
theorem gcdL_zero (as bs : List Int) : gcdL 0 (as ++ [0] ++ bs) = gcdL 0 (as ++ bs) := by
  rw [List.append_assoc, gcdL_app, gcdL_app as bs]
  simp [gcdL]
def widF (f : Fo) : Fo := ⟨f.as ++ [0], f.c, f.d⟩
theorem widF_ok {size b : Nat} {f : Fo} (h : OkF size b f) : OkF (size + 1) b (widF f) := by
  refine ⟨by simp [widF, h.len], h.dpos, ?_, fun i hi => ?_⟩
  · show gcdL 0 (f.as ++ [0] ++ [f.c, f.d]) = 1
    rw [gcdL_zero]
    exact h.cop
  · have hi : i ∈ f.as ++ [0] ++ [f.c, f.d] := hi
    simp at hi
    rcases hi with hi | rfl | rfl | rfl
    · exact h.lt i (by simp [hi])
    · exact Nat.pow_pos (by omega)
    · exact h.lt f.c (by simp)
    · exact h.lt f.d (by simp)
/-- a move, a phase, a make with a further register -/
def WidV (v v' : Mov) : Prop := v'.1 = v.1 ∧ ∃ f, v'.2 = v.2.map widF ++ [f]
def WidP (p p' : Pha) : Prop := p'.1 = widF p.1 ∧ All2 WidV p.2 p'.2
def WidM (m m' : Mke) : Prop := m'.st = m.st ∧ (∃ x, m'.vals = m.vals ++ [x]) ∧ All2 WidP m.phs m'.phs
theorem wid_cut (f : Fo) : (f.as ++ [f.c, f.d]).map D.int = f.as.map D.int ++ [.int f.c, .int f.d] := by simp
theorem cut_m2 {α : Type} (xs : List α) (x y : α) : cut (xs ++ [x, y]) none (some (-2)) = xs := by
  have e : (-2 + ((xs ++ [x, y]).length : Int)).toNat = xs.length := by simp; omega
  simp only [cut, sIx]
  rw [if_pos (by decide), e]
  simp
theorem cut_m2r {α : Type} (xs : List α) (x y : α) : cut (xs ++ [x, y]) (some (-2)) none = [x, y] := by
  have e : (-2 + ((xs ++ [x, y]).length : Int)).toNat = xs.length := by simp; omega
  simp only [cut, sIx]
  rw [if_pos (by decide), e]
  simp
theorem All2.app {α β : Type} {P : α → β → Prop} : ∀ {as : List α} {bs : List β} {a : α} {b : β}, All2 P as bs → P a b → All2 P (as ++ [a]) (bs ++ [b])
  | _, _, _, _, .nil, h => .cons h .nil
  | _, _, _, _, .cons h1 h2, h => .cons h1 (h2.app h)
theorem All2.mem {α β : Type} {P : α → β → Prop} : ∀ {as : List α} {bs : List β}, All2 P as bs → ∀ b ∈ bs, ∃ a ∈ as, P a b
  | _, _, .nil, b, h => by cases h
  | _, _, .cons h1 h2, b, h => by
    rcases List.mem_cons.mp h with rfl | h
    · exact ⟨_, by simp, h1⟩
    · obtain ⟨a, ha, hp⟩ := h2.mem b h
      exact ⟨a, by simp [ha], hp⟩
section
variable {m : Mke} {size phases count b B d : Nat}
theorem sem_formT (n size : Nat) (hz : size ≤ 900) {s : D} (hs : Src s) : ∃ f s', tab.sem (n + 3) 18 [s, .int size] = .ok (encF f, false, s') ∧ OkF size 4 f ∧ f.d.natAbs < 4 ∧ Src s' := by
  obtain ⟨d, s', e, h, hs'⟩ := sem_form n size hz hs
  obtain ⟨f, rfl, hf, hd⟩ := fm_typed h
  exact ⟨f, s', e, hf, hd, hs'⟩
/-- what the new phases keep -/
def NewV (size phases b d : Nat) (v : Mov) : Prop := v.1 < phases ∧ v.2.length = size ∧ ∀ f ∈ v.2, OkF size b f ∧ f.d.natAbs < 2 ^ d
theorem widD (f : Fo) (n : Nat) (env : Env) (hE : at_ env 13 = some (.f, encF f)) (hl : f.as.length ≤ 1000) : evX (tab.gl n) E79_1 env = .ok ((encF (widF f), false), env) := by
  have c1 : slD (encF f) none (some (-2)) = some (.tup (f.as.map D.int), false) := by
    rw [encF_eq]
    show some (D.tup (cut _ none (some (-2))), false) = _
    rw [cut_m2]
  have c2 : slD (encF f) (some (-2)) none = some (.tup [.int f.c, .int f.d], false) := by
    rw [encF_eq]
    show some (D.tup (cut _ (some (-2)) none), false) = _
    rw [cut_m2r]
  have l1 : 1 ≤ line := by decide
  have a1 := add_tup (f.as.map D.int) [.int 0] (by simp [line]; omega)
  have a2 := add_tup (f.as.map D.int ++ [.int 0]) [.int f.c, .int f.d] (by simp [line]; omega)
  have ew : encF (widF f) = .tup (f.as.map D.int ++ [.int 0] ++ [.int f.c, .int f.d]) := by simp [encF, widF]
  rw [ew]
  simp -implicitDefEqProofs [-List.append_assoc, hE, c1, c2, l1, a1, a2, optI, isNo]
theorem inner79 (n : Nat) (hs4 : size + 1 ≤ 4) (hb : 4 ≤ b) (hd2 : 2 ≤ d) (x1 x2 x3 x4 x6 x7 x8 : Slot) (vs : List Mov) (hv : ∀ v ∈ vs, NewV size phases b d v) (hvl : vs.length ≤ 1000) {s : D} (hs : Src s) (y10 y11 y12 : Slot) :
    ∃ (s' : D) (ws : List Mov) (z10 z11 z12 : Slot), forL (tF (.tp [(.nm 10), (.nm 11)])) (bF (tab.gl (n + 3)) L79_1) (vs.map encMv) [some (.io, s), x1, x2, x3, x4, some (.f, .int size), x6, x7, x8, some (.o, .lst []), y10, y11, y12, none] =
      .ok (.nx [some (.io, s'), x1, x2, x3, x4, some (.f, .int size), x6, x7, x8, some (.o, .lst (ws.map encMv)), z10, z11, z12, none]) ∧ Src s' ∧ All2 WidV vs ws ∧ ∀ w ∈ ws, NewV (size + 1) phases b d w := by
  have gen : ∀ (vs : List Mov) (us acc : List Mov) (s : D) (y10 y11 y12 : Slot), (∀ v ∈ vs, NewV size phases b d v) → acc.length + vs.length ≤ 1000 → Src s → All2 WidV us acc → (∀ w ∈ acc, NewV (size + 1) phases b d w) →
      ∃ (s' : D) (ws : List Mov) (z10 z11 z12 : Slot), forL (tF (.tp [(.nm 10), (.nm 11)])) (bF (tab.gl (n + 3)) L79_1) (vs.map encMv) [some (.io, s), x1, x2, x3, x4, some (.f, .int size), x6, x7, x8, some (.o, .lst (acc.map encMv)), y10, y11, y12, none] =
      .ok (.nx [some (.io, s'), x1, x2, x3, x4, some (.f, .int size), x6, x7, x8, some (.o, .lst (ws.map encMv)), z10, z11, z12, none]) ∧ Src s' ∧ All2 WidV (us ++ vs) ws ∧ ∀ w ∈ ws, NewV (size + 1) phases b d w := by
    intro vs
    induction vs with
    | nil => intro us acc s y10 y11 y12 _ _ hs ha hn; exact ⟨s, acc, y10, y11, y12, rfl, hs, by simpa using ha, hn⟩
    | cons v vs ih =>
      intro us acc s y10 y11 y12 hv hl hs ha hn
      obtain ⟨n1, n2, n3⟩ := hv v (by simp)
      obtain ⟨f, s1, q, hf, hfd, hs1⟩ := sem_formT n (size + 1) (by omega) hs
      have hc := comp_map (n := n + 3) (v := 13) (e := encF) (g := fun f => encF (widF f)) (xs := v.2) (elt := E79_1) (env := [some (.io, s), x1, x2, x3, x4, some (.f, .int size), x6, x7, x8, some (.o, .lst (acc.map encMv)), some (.f, .int v.1), some (.f, .tup (v.2.map encF)), y12, none])
        (fun g hg => ⟨false, by
          have := widD g (n + 3) [some (.io, s), x1, x2, x3, x4, some (.f, .int size), x6, x7, x8, some (.o, .lst (acc.map encMv)), some (.f, .int v.1), some (.f, .tup (v.2.map encF)), y12, some (.f, encF g)] rfl (by rw [(n3 g hg).1.len]; omega)
          exact this⟩) (fun s => by simp)
      have nw : NewV (size + 1) phases b d (v.1, v.2.map widF ++ [f]) := by
        refine ⟨n1, by simp [n2], fun g hg => ?_⟩
        rcases List.mem_append.mp hg with hg | hg
        · obtain ⟨g0, hg0, rfl⟩ := List.mem_map.mp hg
          exact ⟨widF_ok (n3 g0 hg0).1, (n3 g0 hg0).2⟩
        · rw [List.mem_singleton.mp hg]
          exact ⟨hf.mono hb, lt_up (A := 2) (by simpa using hfd) hd2⟩
      simp only [List.length_cons] at hl
      obtain ⟨s', ws, z10, z11, z12, qi, h1, h2, h3⟩ := ih (us ++ [v]) (acc ++ [(v.1, v.2.map widF ++ [f])]) s1 (some (.f, .int v.1)) (some (.f, .tup (v.2.map encF))) (some (.o, .lst (v.2.map fun f => encF (widF f)))) (fun w hw => hv w (by simp [hw])) (by simp; omega) hs1 (ha.app ⟨rfl, f, rfl⟩) (fun w hw => by
        rcases List.mem_append.mp hw with hw | hw
        · exact hn w hw
        · rw [List.mem_singleton.mp hw]; exact nw)
      refine ⟨s', ws, z10, z11, z12, ?_, h1, by simpa using h2, h3⟩
      have lm : v.2.length ≤ line := by rw [n2]; simp only [line]; omega
      have l2 : 2 ≤ line := by decide
      have l1 : 1 ≤ line := by decide
      have ad := add_lst (v.2.map fun f => encF (widF f)) [encF f] (by simp [line, n2]; omega)
      have ap := app_lst (acc.map encMv) (encMv (v.1, v.2.map widF ++ [f])) (by simp [line]; omega)
      have em : encMv (v.1, v.2.map widF ++ [f]) = .tup [.int v.1, .tup ((v.2.map fun f => encF (widF f)) ++ [encF f])] := by simp [encMv, List.map_map, Function.comp_def]
      have ev : (acc ++ [(v.1, v.2.map widF ++ [f])]).map encMv = acc.map encMv ++ [encMv (v.1, v.2.map widF ++ [f])] := by simp
      rw [ev] at qi
      rw [em] at ap qi
      have ks : ((size : Int) + 1) = ((size + 1 : Nat) : Int) := by omega
      simp -implicitDefEqProofs [-Int.natCast_add, forL, hc, lm, q, ks, l2, l1, ad, ap, knd, qi]
  exact gen vs [] [] s y10 y11 y12 hv (by simpa using hvl) hs .nil (by simp)
theorem loop79 (n : Nat) (h : WF m size phases count b B) (hd : Dn m d) (hs4 : size + 1 ≤ 4) (hb : 4 ≤ b) (hd2 : 2 ≤ d) (x1 x2 x3 x4 : Slot) {s : D} (hs : Src s) :
    ∃ (s' : D) (ps : List Pha) (z7 z8 z9 z10 z11 z12 : Slot), forL (tF (.tp [(.nm 7), (.nm 8)])) (bF (tab.gl (n + 3)) L79_2) (m.phs.map encPh) [some (.io, s), x1, x2, x3, x4, some (.f, .int size), some (.o, .lst []), none, none, none, none, none, none, none] =
      .ok (.nx [some (.io, s'), x1, x2, x3, x4, some (.f, .int size), some (.o, .lst (ps.map encPh)), z7, z8, z9, z10, z11, z12, none]) ∧ Src s' ∧ All2 WidP m.phs ps ∧ ∀ p ∈ ps, (OkF (size + 1) b p.1 ∧ p.1.d.natAbs < 2 ^ d) ∧ p.2.length = count ∧ ∀ v ∈ p.2, NewV (size + 1) phases b d v := by
  have hc5 := h.c5
  have hp5 := h.p5
  have hpl := h.plen
  have gen : ∀ (qs : List Pha) (us acc : List Pha) (s : D) (y7 y8 y9 y10 y11 y12 : Slot), (∀ p ∈ qs, p ∈ m.phs) → acc.length + qs.length ≤ 1000 → Src s → All2 WidP us acc → (∀ p ∈ acc, (OkF (size + 1) b p.1 ∧ p.1.d.natAbs < 2 ^ d) ∧ p.2.length = count ∧ ∀ v ∈ p.2, NewV (size + 1) phases b d v) →
      ∃ (s' : D) (ps : List Pha) (z7 z8 z9 z10 z11 z12 : Slot), forL (tF (.tp [(.nm 7), (.nm 8)])) (bF (tab.gl (n + 3)) L79_2) (qs.map encPh) [some (.io, s), x1, x2, x3, x4, some (.f, .int size), some (.o, .lst (acc.map encPh)), y7, y8, y9, y10, y11, y12, none] =
        .ok (.nx [some (.io, s'), x1, x2, x3, x4, some (.f, .int size), some (.o, .lst (ps.map encPh)), z7, z8, z9, z10, z11, z12, none]) ∧ Src s' ∧ All2 WidP (us ++ qs) ps ∧ ∀ p ∈ ps, (OkF (size + 1) b p.1 ∧ p.1.d.natAbs < 2 ^ d) ∧ p.2.length = count ∧ ∀ v ∈ p.2, NewV (size + 1) phases b d v := by
    intro qs
    induction qs with
    | nil => intro us acc s y7 y8 y9 y10 y11 y12 _ _ hs ha hn; exact ⟨s, acc, y7, y8, y9, y10, y11, y12, rfl, hs, by simpa using ha, hn⟩
    | cons p qs ih =>
      intro us acc s y7 y8 y9 y10 y11 y12 hq hl hs ha hn
      have hp := hq p (by simp)
      obtain ⟨s1, ws, w10, w11, w12, q1, hs1, hw1, hw2⟩ := inner79 n hs4 hb hd2 x1 x2 x3 x4 (some (.o, .lst (acc.map encPh))) (some (.f, encF p.1)) (some (.f, .tup (p.2.map encMv))) p.2 (fun v hv => ⟨(h.nxt p hp v hv).1, (h.nxt p hp v hv).2.1, fun f hf => ⟨(h.nxt p hp v hv).2.2 f hf, (hd p hp).2 v hv f hf⟩⟩) (by rw [h.mvs p hp]; omega) hs y10 y11 y12
      have hwl : ws.length = count := by rw [hw1.len, h.mvs p hp]
      simp only [List.length_cons] at hl
      obtain ⟨s', ps, z7, z8, z9, z10, z11, z12, qi, h1, h2, h3⟩ := ih (us ++ [p]) (acc ++ [(widF p.1, ws)]) s1 (some (.f, encF p.1)) (some (.f, .tup (p.2.map encMv))) (some (.o, .lst (ws.map encMv))) w10 w11 w12 (fun w hw => hq w (by simp [hw])) (by simp; omega) hs1 (ha.app ⟨rfl, hw1⟩) (fun w hw => by
        rcases List.mem_append.mp hw with hw | hw
        · exact hn w hw
        · rw [List.mem_singleton.mp hw]; exact ⟨⟨widF_ok (h.shn p hp), (hd p hp).1⟩, hwl, hw2⟩)
      refine ⟨s', ps, z7, z8, z9, z10, z11, z12, ?_, h1, by simpa using h2, h3⟩
      have l2 : 2 ≤ line := by decide
      have l1 : 1 ≤ line := by decide
      have l0 : 0 ≤ line := by decide
      have c1 : slD (encF p.1) none (some (-2)) = some (.tup (p.1.as.map D.int), false) := by
        rw [encF_eq]
        show some (D.tup (cut _ none (some (-2))), false) = _
        rw [cut_m2]
      have c2 : slD (encF p.1) (some (-2)) none = some (.tup [.int p.1.c, .int p.1.d], false) := by
        rw [encF_eq]
        show some (D.tup (cut _ (some (-2)) none), false) = _
        rw [cut_m2r]
      have hal := (h.shn p hp).len
      have a1 := add_tup (p.1.as.map D.int) [.int 0] (by simp [line]; omega)
      have a2 := add_tup (p.1.as.map D.int ++ [.int 0]) [.int p.1.c, .int p.1.d] (by simp [line]; omega)
      have ew : encF (widF p.1) = .tup (p.1.as.map D.int ++ [.int 0] ++ [.int p.1.c, .int p.1.d]) := by simp [encF, widF]
      have ap := app_lst (acc.map encPh) (encPh (widF p.1, ws)) (by simp [line]; omega)
      have em : encPh (widF p.1, ws) = .tup [.tup (p.1.as.map D.int ++ [.int 0] ++ [.int p.1.c, .int p.1.d]), .tup (ws.map encMv)] := by rw [← ew]; rfl
      have ev : (acc ++ [(widF p.1, ws)]).map encPh = acc.map encPh ++ [encPh (widF p.1, ws)] := by simp
      rw [ev] at qi
      rw [em] at ap qi
      simp -implicitDefEqProofs [-Int.natCast_add, -List.append_assoc, forL, q1, l2, l1, l0, c1, c2, a1, a2, ap, knd, optI, isNo, qi]
  obtain ⟨s', ps, z7, z8, z9, z10, z11, z12, q, h1, h2, h3⟩ := gen m.phs [] [] s none none none none none none (fun p hp => hp) (by simp; omega) hs .nil (by simp)
  exact ⟨s', ps, z7, z8, z9, z10, z11, z12, q, h1, by simpa using h2, h3⟩
theorem sem_law_wider (n : Nat) (h : WF m size phases count b B) (hd : Dn m d) (hb : 4 ≤ b) (hd2 : 2 ≤ d) {s : D} (hs : Src s) : ∃ m' size' s', tab.sem (n + 4) 79 [s, encMk m] = .ok (encMk m', false, s') ∧ WF m' size' phases count b (B + 5) ∧ Dn m' d ∧ Src s' ∧ ((m' = m ∧ size' = size ∧ size = 4) ∨ (size < 4 ∧ size' = size + 1 ∧ WidM m m')) := by
  rw [sem1 tab (n + 3) 79 b_79 _ _ rfl rfl rfl]
  have hz := h.sz
  have hvl := h.vlen
  by_cases h4 : size = 4
  · refine ⟨m, size, s, ?_, h.mono (Nat.le_refl _) (by omega), hd, hs, .inl ⟨rfl, rfl, h4⟩⟩
    have c : (m.vals.length : Int) = 4 := by omega
    simp -implicitDefEqProofs [b_79, c]
  · obtain ⟨s1, ps, z7, z8, z9, z10, z11, z12, q1, hs1, hw, hok⟩ := loop79 n h hd (by omega) hb hd2 (some (.f, encMk m)) (some (.f, .int m.st)) (some (.f, .tup (m.vals.map frac))) (some (.f, .tup (m.phs.map encPh))) hs
    obtain ⟨r, s2, q2, u2, hs2⟩ := sem_drawN (n + 2) hs1 9 (by omega)
    obtain ⟨x, hx⟩ : ∃ x : Int, (r : Int) - 4 = x := ⟨_, rfl⟩
    refine ⟨⟨m.st, m.vals ++ [(x : Rat)], ps⟩, size + 1, s2, ?_, { st := h.st, vlen := by simp [hvl], vbd := ?_, plen := by show ps.length = _; rw [hw.len]; exact h.plen, shn := fun p hp => (hok p hp).1.1, mvs := fun p hp => (hok p hp).2.1, nxt := fun p hp v hv => ⟨((hok p hp).2.2 v hv).1, ((hok p hp).2.2 v hv).2.1, fun f hf => (((hok p hp).2.2 v hv).2.2 f hf).1⟩, sz := by omega, p1 := h.p1, p5 := h.p5, c1 := h.c1, c5 := h.c5, b1 := h.b1 }, fun p hp => ⟨(hok p hp).1.2, fun v hv f hf => (((hok p hp).2.2 v hv).2.2 f hf).2⟩, hs2, .inr ⟨by omega, rfl, rfl, ⟨_, rfl⟩, hw⟩⟩
    · have c : ¬ (size : Int) = 4 := by omega
      have cv : (m.vals.length : Int) = size := by omega
      have l3 : 3 ≤ line := by decide
      have l2 : 2 ≤ line := by decide
      have l1 : 1 ≤ line := by decide
      have l0 : 0 ≤ line := by decide
      have ad := add_tup (m.vals.map frac) [.tup [.int x, .int 1]] (by simp [line]; omega)
      have ev : (m.vals ++ [(x : Rat)]).map frac = m.vals.map frac ++ [.tup [.int x, .int 1]] := by simp [frac_int]
      have em : encMk ⟨m.st, m.vals ++ [(x : Rat)], ps⟩ = .tup [.int m.st, .tup (m.vals.map frac ++ [.tup [.int x, .int 1]]), .tup (ps.map encPh)] := by
        show D.tup [.int m.st, .tup ((m.vals ++ [(x : Rat)]).map frac), .tup (ps.map encPh)] = _
        rw [ev]
      rw [em]
      simp -implicitDefEqProofs [b_79, c, cv, q1, q2, hx, l3, l2, l1, l0, ad]
    · obtain ⟨e, he, hbe, hv⟩ := h.vbd
      refine ⟨e, he, lt_up hbe (by omega), fun q hq => ?_⟩
      have hq : q ∈ m.vals ++ [(x : Rat)] := hq
      rcases List.mem_append.mp hq with hq | hq
      · obtain ⟨y, hy, hyb⟩ := hv q hq
        exact ⟨y, hy, lt_up hyb (by omega)⟩
      · rw [List.mem_singleton.mp hq]
        refine ⟨x * e, by rw [cast_mul], ?_⟩
        rw [Nat.add_comm]
        exact natAbs_mul_lt (A := 5) (by simp; omega) hbe
end
end PK
end
section
set_option linter.all false
set_option maxRecDepth 100000
set_option maxHeartbeats 1000000
/-! PkW4: phases in another order. -/
namespace PK
/-- ints as data -/
def encN (xs : List Nat) : List D := xs.map fun i : Nat => D.int (i : Int)
def renM (m : Mke) (ns : List Nat) : Mke := ⟨ns.idxOf m.st, m.vals, ns.map fun o => ((phOf m o).1, (phOf m o).2.map fun v => (ns.idxOf v.1, v.2))⟩
theorem range_encN (k : Nat) : rangeD 0 k = encN (List.range k) := by
  rw [map_range]
  simp [encN]
theorem idxL_nat (y : Nat) : ∀ (xs : List Nat) (i : Nat), y ∈ xs → idxL (.int y) (encN xs) i = some (i + xs.idxOf y)
  | x :: xs, i, h => by
    by_cases e : x = y
    · subst e
      have ed : eqD (.int (x : Int)) (.int (x : Int)) = true := by simp [eqD]
      simp only [encN, List.map_cons, idxL, ed, if_true, List.idxOf_cons, beq_self_eq_true, cond_true, Nat.add_zero]
    · have ed : eqD (.int (x : Int)) (.int (y : Int)) = false := by simp only [eqD]; simp; omega
      have hm : y ∈ xs := by
        rcases List.mem_cons.mp h with h | h
        · exact absurd h.symm e
        · exact h
      have ih := idxL_nat y xs (i + 1) hm
      simp only [encN] at ih
      simp only [encN, List.map_cons, idxL, ed, Bool.false_eq_true, if_false, ih, List.idxOf_cons]
      have e3 : (x == y) = false := by simpa using e
      rw [e3]
      simp
      omega
theorem shals_encN (n : Nat) (xs : List Nat) : shals n (encN xs) = true := shals_of fun x hx => by
  obtain ⟨i, _, rfl⟩ := List.mem_map.mp hx
  simp [shal]
theorem mt_idx {y : Nat} {xs : List Nat} (h : y ∈ xs) : mtD .index (.lst (encN xs)) [.int y] = some (.int ((xs.idxOf y : Nat) : Int), false) := by
  show (if shal 40 (.int y) && shals 40 (encN xs) then _ else _) = _
  have : shal 40 (.int (y : Int)) = true := by simp [shal]
  rw [this, shals_encN, idxL_nat y xs 0 h]
  simp
theorem ne_encN (xs : List Nat) : cmpD .ne (.lst (encN xs)) (.lst []) = some (!xs.isEmpty) := by
  have h1 : shal 40 (.lst (encN xs)) = true := by simp only [shal]; exact shals_encN _ _
  have h2 : shal 40 (.lst []) = true := by simp [shal, shals]
  simp only [cmpD, h1, h2, Bool.and_self, if_true]
  cases xs with
  | nil => simp [encN, eqD, eqDs]
  | cons x xs => simp [encN, eqD, eqDs]
section
variable {m : Mke} {size phases count b B d : Nat}
theorem renM_ok (h : WF m size phases count b B) {ns : List Nat} (hp : (List.range phases).Perm ns) : WF (renM m ns) size phases count b B := by
  have hm : ∀ i, i < phases → i ∈ ns := fun i hi => hp.mem_iff.mp (List.mem_range.mpr hi)
  have hm2 : ∀ i ∈ ns, i < phases := fun i hi => List.mem_range.mp (hp.mem_iff.mpr hi)
  have hl : ns.length = phases := by rw [← hp.length_eq]; simp
  have hlt : ∀ i, i < phases → ns.idxOf i < phases := fun i hi => by rw [← hl]; exact List.idxOf_lt_length_of_mem (hm i hi)
  refine { st := hlt _ h.st, vlen := h.vlen, vbd := h.vbd, plen := by simp [renM, hl], shn := fun p hp => ?_, mvs := fun p hp => ?_, nxt := fun p hp v hv => ?_, sz := h.sz, p1 := h.p1, p5 := h.p5, c1 := h.c1, c5 := h.c5, b1 := h.b1 }
  · obtain ⟨o, ho, rfl⟩ := List.mem_map.mp hp
    show OkF size b (phOf m o).1
    exact h.shn _ (h.at_ (hm2 o ho)).2
  · obtain ⟨o, ho, rfl⟩ := List.mem_map.mp hp
    simp [h.mvs _ (h.at_ (hm2 o ho)).2]
  · obtain ⟨o, ho, rfl⟩ := List.mem_map.mp hp
    obtain ⟨v, hv0, rfl⟩ := List.mem_map.mp hv
    obtain ⟨n1, n2, n3⟩ := h.nxt _ (h.at_ (hm2 o ho)).2 v hv0
    exact ⟨hlt _ n1, n2, n3⟩
theorem renM_dn (h : WF m size phases count b B) (hd : Dn m d) {ns : List Nat} (hp : (List.range phases).Perm ns) : Dn (renM m ns) d := by
  have hm2 : ∀ i ∈ ns, i < phases := fun i hi => List.mem_range.mp (hp.mem_iff.mpr hi)
  intro p hp
  obtain ⟨o, ho, rfl⟩ := List.mem_map.mp hp
  have := hd _ (h.at_ (hm2 o ho)).2
  refine ⟨this.1, fun v hv f hf => ?_⟩
  obtain ⟨v, hv0, rfl⟩ := List.mem_map.mp hv
  exact this.2 v hv0 f hf
theorem encN_app (xs ys : List Nat) : encN (xs ++ ys) = encN xs ++ encN ys := by simp [encN]
theorem names_loop (n : Nat) (x1 x2 x3 x4 x5 x6 : Slot) : ∀ (j : Nat) (ns rest : List Nat) (s : D) (y9 : Slot), rest.length = j → ns.length + j ≤ 1000 → Src s →
    ∃ (s' : D) (ms : List Nat) (z9 : Slot), whlN (cF (tab.gl (n + 1)) E80_1) (bF (tab.gl (n + 1)) L80_1) (j + 1) [some (.io, s), x1, x2, x3, x4, x5, x6, some (.o, .lst (encN ns)), some (.o, .lst (encN rest)), y9, none, none, none] =
      .ok (.nx [some (.io, s'), x1, x2, x3, x4, x5, x6, some (.o, .lst (encN ms)), some (.o, .lst []), z9, none, none, none]) ∧ Src s' ∧ (ns ++ rest).Perm ms := by
  intro j
  induction j with
  | zero =>
    intro ns rest s y9 hl hn hs
    have : rest = [] := List.eq_nil_of_length_eq_zero hl
    subst this
    have c := ne_encN []
    have l0 : 0 ≤ line := by decide
    have e0 : encN [] = [] := rfl
    rw [e0] at c
    refine ⟨s, ns, y9, ?_, hs, by simp⟩
    simp -implicitDefEqProofs [whlN, cF, e0, c, l0]
  | succ j ih =>
    intro ns rest s y9 hl hn hs
    obtain ⟨a, s1, q, u, hs1⟩ := sem_drawN n hs (rest.length : Int) (by omega)
    have ha : a < rest.length := by omega
    have c := ne_encN rest
    have he : rest.isEmpty = false := by cases rest with | nil => simp at hl | cons => rfl
    rw [he] at c
    have l0 : 0 ≤ line := by decide
    have l1 : 1 ≤ line := by decide
    have xa : atZ (encN rest) (a : Int) = some (.int ((rest[a] : Nat) : Int)) := by rw [atZ_nat]; simp [encN, ha]
    have ad := add_lst (encN ns) [.int ((rest[a] : Nat) : Int)] (by simp [line, encN]; omega)
    have e1 : encN ns ++ [.int ((rest[a] : Nat) : Int)] = encN (ns ++ [rest[a]]) := by simp [encN]
    rw [e1] at ad
    have ct := cut_take (encN rest) a (by simp [encN]; omega)
    have cd := cut_drop (encN rest) (a + 1) (by simp [encN]; omega)
    have e2 : (encN rest).take a = encN (rest.take a) := by simp [encN]
    have e3 : (encN rest).drop (a + 1) = encN (rest.drop (a + 1)) := by simp [encN]
    rw [e2] at ct
    rw [e3] at cd
    have ad2 := add_lst (encN (rest.take a)) (encN (rest.drop (a + 1))) (by simp [line, encN]; omega)
    rw [← encN_app] at ad2
    have hl2 : (rest.take a ++ rest.drop (a + 1)).length = j := by simp; omega
    obtain ⟨s', ms, z9, g1, g2, g3⟩ := ih (ns ++ [rest[a]]) (rest.take a ++ rest.drop (a + 1)) s1 (some (.f, .int a)) hl2 (by simp; omega) hs1
    refine ⟨s', ms, z9, ?_, g2, ?_⟩
    · have cc : cF (tab.gl (n + 1)) E80_1 [some (.io, s), x1, x2, x3, x4, x5, x6, some (.o, .lst (encN ns)), some (.o, .lst (encN rest)), y9, none, none, none] = .ok (true, [some (.io, s), x1, x2, x3, x4, x5, x6, some (.o, .lst (encN ns)), some (.o, .lst (encN rest)), y9, none, none, none]) := by
        simp -implicitDefEqProofs [cF, c, l0]
      have k1 : ((a : Int) + 1) = ((a + 1 : Nat) : Int) := by omega
      have lr : ((encN rest).length : Int) = rest.length := by simp [encN]
      have bb : bF (tab.gl (n + 1)) L80_1 [some (.io, s), x1, x2, x3, x4, x5, x6, some (.o, .lst (encN ns)), some (.o, .lst (encN rest)), y9, none, none, none] = .ok (.nx [some (.io, s1), x1, x2, x3, x4, x5, x6, some (.o, .lst (encN (ns ++ [rest[a]]))), some (.o, .lst (encN (rest.take a ++ rest.drop (a + 1)))), some (.f, .int a), none, none, none]) := by
        simp -implicitDefEqProofs [-Int.natCast_add, lr, q, l1, xa, ad, ct, cd, ad2, k1, slD, optI, isNo]
      rw [whlN, cc]
      simp only [Res.bindE, bb]
      exact g1
    · refine List.Perm.trans ?_ g3
      have e4 : rest = rest.take a ++ rest[a] :: rest.drop (a + 1) := by
        have := List.take_append_drop a rest
        rw [List.drop_eq_getElem_cons ha] at this
        exact this.symm
      rw [List.append_assoc]
      refine List.Perm.append_left ns ?_
      conv => lhs; rw [e4]
      exact List.perm_middle
theorem sem_law_renamed (n : Nat) (h : WF m size phases count b B) {s : D} (hs : Src s) : ∃ ns s', tab.sem (n + 2) 80 [s, encMk m] = .ok (encMk (renM m ns), false, s') ∧ (List.range phases).Perm ns ∧ Src s' := by
  rw [sem1 tab (n + 1) 80 b_80 _ _ rfl rfl rfl]
  have hp5 := h.p5
  have hpl := h.plen
  have hc5 := h.c5
  obtain ⟨s1, ns, z9, q1, hs1, hperm⟩ := names_loop n (some (.f, encMk m)) none none (some (.f, .int m.st)) (some (.f, .tup (m.vals.map frac))) (some (.f, .tup (m.phs.map encPh))) phases [] (List.range phases) s none (by simp) (by simp; omega) hs
  rw [List.nil_append] at hperm
  have hm : ∀ i, i < phases → i ∈ ns := fun i hi => hperm.mem_iff.mp (List.mem_range.mpr hi)
  have hm2 : ∀ i ∈ ns, i < phases := fun i hi => List.mem_range.mp (hperm.mem_iff.mpr hi)
  have hnl : ns.length = phases := by rw [← hperm.length_eq]; simp
  have q1 := whl_ok q1
  obtain ⟨env', q2, hlen, z3, z10, rfl⟩ := forL_rel (ft := tF (.nm 3)) (fb := bF (tab.gl (n + 1)) L80_2) (e := fun i : Nat => D.int (i : Int)) (xs := ns) (i := 0) (b := ([] : List Pha)) (env := [some (.io, s1), some (.f, encMk m), some (.o, .lst []), none, some (.f, .int m.st), some (.f, .tup (m.vals.map frac)), some (.f, .tup (m.phs.map encPh)), some (.f, .lst (encN ns)), some (.o, .lst []), z9, none, none, none])
    (fun j (l : List Pha) env => l.length ≤ j ∧ ∃ z3 z10, env = [some (.io, s1), some (.f, encMk m), some (.o, .lst (l.map encPh)), z3, some (.f, .int m.st), some (.f, .tup (m.vals.map frac)), some (.f, .tup (m.phs.map encPh)), some (.f, .lst (encN ns)), some (.o, .lst []), z9, z10, none, none])
    (fun l o => l ++ [((phOf m o).1, (phOf m o).2.map fun v => (ns.idxOf v.1, v.2))])
    (fun o ho j l env hj hj2 ⟨hl, z3, z10, hE⟩ => by
      subst hE
      have hop := hm2 o ho
      have xp := ph_at h hop
      have hpp := (h.at_ hop).2
      have hc := compL_map (e := encMv) (g := fun v : Mov => encMv (ns.idxOf v.1, v.2)) (vs := [11, 12]) (ft := tF (.tp [.nm 11, .nm 12])) (fi := iF (tab.gl (n + 1)) []) (fe := xF (tab.gl (n + 1)) E80_2) (xs := (phOf m o).2)
        (env := [some (.io, s1), some (.f, encMk m), some (.o, .lst (l.map encPh)), some (.f, .int o), some (.f, .int m.st), some (.f, .tup (m.vals.map frac)), some (.f, .tup (m.phs.map encPh)), some (.f, .lst (encN ns)), some (.o, .lst []), z9, z10, none, none])
        (fun v hv => by
          have xi := mt_idx (hm v.1 (h.nxt _ hpp v hv).1)
          have l2 : 2 ≤ line := by decide
          exact ⟨[some (.io, s1), some (.f, encMk m), some (.o, .lst (l.map encPh)), some (.f, .int o), some (.f, .int m.st), some (.f, .tup (m.vals.map frac)), some (.f, .tup (m.phs.map encPh)), some (.f, .lst (encN ns)), some (.o, .lst []), z9, z10, some (.f, .int v.1), some (.f, .tup (v.2.map encF))], [some (.io, s1), some (.f, encMk m), some (.o, .lst (l.map encPh)), some (.f, .int o), some (.f, .int m.st), some (.f, .tup (m.vals.map frac)), some (.f, .tup (m.phs.map encPh)), some (.f, .lst (encN ns)), some (.o, .lst []), z9, z10, some (.f, .int v.1), some (.f, .tup (v.2.map encF))], false, [some (.io, s1), some (.f, encMk m), some (.o, .lst (l.map encPh)), some (.f, .int o), some (.f, .int m.st), some (.f, .tup (m.vals.map frac)), some (.f, .tup (m.phs.map encPh)), some (.f, .lst (encN ns)), some (.o, .lst []), z9, z10, some (.f, .int v.1), some (.f, .tup (v.2.map encF))], rfl, rfl, by simp -implicitDefEqProofs [xi, knd, l2, encMv], rfl⟩)
      have lm : (phOf m o).2.length ≤ line := by rw [h.mvs _ hpp]; simp only [line]; omega
      have l2 : 2 ≤ line := by decide
      have hjn : j < 1000 := by simp at hj2; omega
      have ap := app_lst (l.map encPh) (encPh ((phOf m o).1, (phOf m o).2.map fun v => (ns.idxOf v.1, v.2))) (by simp [line]; omega)
      have em : encPh ((phOf m o).1, (phOf m o).2.map fun v => (ns.idxOf v.1, v.2)) = .tup [encF (phOf m o).1, .tup ((phOf m o).2.map fun v => encMv (ns.idxOf v.1, v.2))] := by simp [encPh, List.map_map, Function.comp_def]
      refine ⟨[some (.io, s1), some (.f, encMk m), some (.o, .lst (l.map encPh)), some (.f, .int o), some (.f, .int m.st), some (.f, .tup (m.vals.map frac)), some (.f, .tup (m.phs.map encPh)), some (.f, .lst (encN ns)), some (.o, .lst []), z9, z10, none, none], [some (.io, s1), some (.f, encMk m), some (.o, .lst ((l ++ [((phOf m o).1, (phOf m o).2.map fun v => (ns.idxOf v.1, v.2))]).map encPh)), some (.f, .int o), some (.f, .int m.st), some (.f, .tup (m.vals.map frac)), some (.f, .tup (m.phs.map encPh)), some (.f, .lst (encN ns)), some (.o, .lst []), z9, some (.f, .tup ((phOf m o).2.map fun v => encMv (ns.idxOf v.1, v.2))), none, none], by simp, ?_, by simp; omega, _, _, rfl⟩
      have ev : (l ++ [((phOf m o).1, (phOf m o).2.map fun v => (ns.idxOf v.1, v.2))]).map encPh = l.map encPh ++ [encPh ((phOf m o).1, (phOf m o).2.map fun v => (ns.idxOf v.1, v.2))] := by simp
      rw [ev]
      rw [em] at ap ⊢
      simp -implicitDefEqProofs [xp, hc, lm, l2, ap, knd]) ⟨by simp, none, none, rfl⟩
  have e2 := foldl_snoc (fun o : Nat => (((phOf m o).1, (phOf m o).2.map fun v => (ns.idxOf v.1, v.2)) : Pha)) ns []
  rw [List.nil_append] at e2
  rw [e2] at q2
  refine ⟨ns, s1, ?_, hperm, hs1⟩
  have xs := mt_idx (hm m.st h.st)
  have rk : rngOk (phases : Int) = true := by simp [rngOk]; omega
  have pl : (m.phs.length : Int) = phases := by omega
  have r1 : biD .range1 [.int (phases : Int)] = some (.lst (encN (List.range phases)), true) := by
    have hl : phases ≤ line := by simp only [line]; omega
    simp only [biD, rk, hl, decide_true, Bool.and_self, if_true, Int.toNat_natCast, range_encN]
  have e0 : encN [] = [] := rfl
  rw [e0] at q1
  have l3 : 3 ≤ line := by decide
  have l2 : 2 ≤ line := by decide
  have l0 : 0 ≤ line := by decide
  have em : encMk (renM m ns) = .tup [.int ((ns.idxOf m.st : Nat) : Int), .tup (m.vals.map frac), .tup ((ns.map fun o => ((phOf m o).1, (phOf m o).2.map fun v => (ns.idxOf v.1, v.2))).map encPh)] := rfl
  rw [em]
  have q2' : forL (tF (.nm 3)) (bF (tab.gl (n + 1)) L80_2) (encN ns) _ = _ := q2
  simp -implicitDefEqProofs [-List.map_map, b_80, pl, r1, q1, q2', xs, l3, l2, l0, knd]
end
end PK
end
section
set_option linter.all false
set_option maxRecDepth 100000
set_option maxHeartbeats 1000000
/-! PkW5: a make with a number changed; makes that are alike, or nearly so. -/
namespace PK
theorem repl_tup {α : Type} (enc : α → D) (xs : List α) (a : Nat) (x : α) (h : a < xs.length) (hl : xs.length ≤ 1000) :
    slD (.tup (xs.map enc)) none (some (a : Int)) = some (.tup ((xs.take a).map enc), false) ∧ slD (.tup (xs.map enc)) (some ((a + 1 : Nat) : Int)) none = some (.tup ((xs.drop (a + 1)).map enc), false) ∧
    binD .add (.tup ((xs.take a).map enc)) (.tup [enc x]) = some (.tup ((xs.take a).map enc ++ [enc x]), false) ∧ binD .add (.tup ((xs.take a).map enc ++ [enc x])) (.tup ((xs.drop (a + 1)).map enc)) = some (.tup ((xs.set a x).map enc), false) := by
  have ct := cut_take (xs.map enc) a (by simp; omega)
  have cd := cut_drop (xs.map enc) (a + 1) (by simp; omega)
  refine ⟨?_, ?_, add_tup _ _ (by simp [line]; omega), ?_⟩
  · show some (D.tup (cut _ none (some (a : Int))), false) = _
    rw [ct, List.map_take]
  · show some (D.tup (cut _ (some ((a + 1 : Nat) : Int)) none), false) = _
    rw [cd, List.map_drop]
  · rw [add_tup _ _ (by simp [line]; omega)]
    have := List.set_eq_take_append_cons_drop (l := xs) (i := a) (a := x)
    rw [if_pos h] at this
    rw [this]
    simp
def bumpF (f : Fo) (i : Nat) (x : Int) : Fo := if i < f.as.length then lowF (f.as.set i (geti f.as i + x)) f.c f.d else lowF f.as (f.c + x) f.d
def getV (l : List Mov) (k : Nat) : Mov := l.getD k mv0
def nudP (size : Nat) (p : Pha) (k pl i : Nat) (x : Int) : Pha := if pl = size then (bumpF p.1 i x, p.2) else (p.1, p.2.set k ((getV p.2 k).1, (getV p.2 k).2.set pl (bumpF (getF (getV p.2 k).2 pl) i x)))
def nudM (size : Nat) (m : Mke) (a k pl i : Nat) (x : Int) : Mke := ⟨m.st, m.vals, m.phs.set a (nudP size (phOf m a) k pl i x)⟩
theorem at_V {l : List Mov} {a : Nat} (h : a < l.length) : atZ (l.map encMv) (a : Int) = some (encMv (getV l a)) := by
  rw [atZ_nat, List.getElem?_map, List.getElem?_eq_getElem h]
  simp [getV, List.getElem?_eq_getElem h]
theorem getV_mem {l : List Mov} {a : Nat} (h : a < l.length) : getV l a ∈ l := by simp [getV, List.getElem?_eq_getElem h]
section
variable {m : Mke} {size phases count b B d : Nat}
theorem bumpF_ok {f : Fo} (h : OkF size b f) (hd : f.d.natAbs < 2 ^ d) {i : Nat} (hi : i ≤ size) {x : Int} (hx : x.natAbs ≤ 2) (hb : 1 ≤ b) : OkF size (b + 1) (bumpF f i x) ∧ (bumpF f i x).d.natAbs < 2 ^ d := by
  have hl := h.len
  have hb2 : 2 ≤ 2 ^ b := by have := pow_le_pow2 hb; simpa using this
  have up : ∀ y : Int, y.natAbs < 2 ^ b → (y + x).natAbs < 2 ^ (b + 1) := fun y hy => by
    have := Int.natAbs_add_le y x
    rw [Nat.pow_succ]
    omega
  unfold bumpF
  split
  · rename_i hi2
    have := lowF_ok (as := f.as.set i (geti f.as i + x)) (c := f.c) (d := f.d) (b := b + 1) h.dpos (fun j hj => by
      rcases List.mem_append.mp hj with hj | hj
      · rcases List.mem_or_eq_of_mem_set hj with hj | hj
        · exact lt_up (h.lt j (List.mem_append_left _ hj)) (by omega)
        · rw [hj]; exact up _ (h.lt _ (List.mem_append_left _ (geti_mem hi2)))
      · exact lt_up (h.lt j (List.mem_append_right _ hj)) (by omega))
    rw [List.length_set, hl] at this
    exact ⟨this.1, Nat.lt_of_le_of_lt this.2 hd⟩
  · have := lowF_ok (as := f.as) (c := f.c + x) (d := f.d) (b := b + 1) h.dpos (fun j hj => by
      simp at hj
      rcases hj with hj | rfl | rfl
      · exact lt_up (h.lt j (List.mem_append_left _ hj)) (by omega)
      · exact up _ (h.lt _ (by simp))
      · exact lt_up h.dlt (by omega))
    rw [hl] at this
    exact ⟨this.1, Nat.lt_of_le_of_lt this.2 hd⟩
theorem nudP_ok (h : WF m size phases count b B) (hd : Dn m d) {p : Pha} (hp : p ∈ m.phs) {k pl i : Nat} (hk : k < count) (hpl : pl ≤ size) (hi : i ≤ size) {x : Int} (hx : x.natAbs ≤ 2) :
    (OkF size (b + 1) (nudP size p k pl i x).1 ∧ (nudP size p k pl i x).1.d.natAbs < 2 ^ d) ∧ (nudP size p k pl i x).2.length = count ∧ ∀ v ∈ (nudP size p k pl i x).2, v.1 < phases ∧ v.2.length = size ∧ ∀ f ∈ v.2, OkF size (b + 1) f ∧ f.d.natAbs < 2 ^ d := by
  have hml := h.mvs p hp
  have old : ∀ v ∈ p.2, v.1 < phases ∧ v.2.length = size ∧ ∀ f ∈ v.2, OkF size (b + 1) f ∧ f.d.natAbs < 2 ^ d := fun v hv => by
    obtain ⟨n1, n2, n3⟩ := h.nxt p hp v hv
    exact ⟨n1, n2, fun f hf => ⟨(n3 f hf).mono (by omega), (hd p hp).2 v hv f hf⟩⟩
  unfold nudP
  split
  · exact ⟨bumpF_ok (h.shn p hp) (hd p hp).1 hi hx h.b1, hml, old⟩
  · rename_i hne
    refine ⟨⟨(h.shn p hp).mono (by omega), (hd p hp).1⟩, by simp [hml], fun v hv => ?_⟩
    rcases List.mem_or_eq_of_mem_set hv with hv | hv
    · exact old v hv
    · have gm := getV_mem (l := p.2) (a := k) (by omega)
      obtain ⟨n1, n2, n3⟩ := h.nxt p hp _ gm
      subst hv
      refine ⟨n1, by simp [n2], fun f hf => ?_⟩
      rcases List.mem_or_eq_of_mem_set hf with hf | hf
      · exact ⟨(n3 f hf).mono (by omega), (hd p hp).2 _ gm f hf⟩
      · rw [hf]
        have fm := getF_mem (l := (getV p.2 k).2) (a := pl) (by omega)
        exact bumpF_ok (n3 _ fm) ((hd p hp).2 _ gm _ fm) hi hx h.b1
theorem nudM_ok (h : WF m size phases count b B) (hd : Dn m d) {a k pl i : Nat} (ha : a < phases) (hk : k < count) (hpl : pl ≤ size) (hi : i ≤ size) {x : Int} (hx : x.natAbs ≤ 2) : WF (nudM size m a k pl i x) size phases count (b + 1) B ∧ Dn (nudM size m a k pl i x) d := by
  have nn := nudP_ok h hd (h.at_ ha).2 hk hpl hi hx
  have mem : ∀ p ∈ (nudM size m a k pl i x).phs, p ∈ m.phs ∨ p = nudP size (phOf m a) k pl i x := fun p hp => List.mem_or_eq_of_mem_set hp
  constructor
  · refine { st := h.st, vlen := h.vlen, vbd := h.vbd, plen := by simp [nudM, h.plen], shn := fun p hp => ?_, mvs := fun p hp => ?_, nxt := fun p hp v hv => ?_, sz := h.sz, p1 := h.p1, p5 := h.p5, c1 := h.c1, c5 := h.c5, b1 := by have := h.b1; omega }
    · rcases mem p hp with hp | rfl
      · exact (h.shn p hp).mono (by omega)
      · exact nn.1.1
    · rcases mem p hp with hp | rfl
      · exact h.mvs p hp
      · exact nn.2.1
    · rcases mem p hp with hp | rfl
      · exact ⟨(h.nxt p hp v hv).1, (h.nxt p hp v hv).2.1, fun f hf => ((h.nxt p hp v hv).2.2 f hf).mono (by omega)⟩
      · exact ⟨(nn.2.2 v hv).1, (nn.2.2 v hv).2.1, fun f hf => ((nn.2.2 v hv).2.2 f hf).1⟩
  · intro p hp
    rcases mem p hp with hp | rfl
    · exact hd p hp
    · exact ⟨nn.1.2, fun v hv f hf => ((nn.2.2 v hv).2.2 f hf).2⟩
theorem list_F (f : Fo) : biD .list [encF f] = some (.lst ((f.as ++ [f.c, f.d]).map D.int), true) := rfl
/-- the changed row, in lowest terms -/
theorem bump_row (n : Nat) {f : Fo} (h : OkF size b f) (hs : size ≤ 900) {i : Nat} (hi : i ≤ size) (x : Int) :
    ∃ row, atZ ((f.as ++ [f.c, f.d]).map D.int) (i : Int) = some (.int (geti (f.as ++ [f.c, f.d]) i)) ∧ setD (.lst ((f.as ++ [f.c, f.d]).map D.int)) (.int i) (.int (geti (f.as ++ [f.c, f.d]) i + x)) = some (.lst row) ∧ tab.sem (n + 2) 75 [.lst row] = .ok (encF (bumpF f i x), false, .non) := by
  have hl := h.len
  refine ⟨((f.as ++ [f.c, f.d]).set i (geti (f.as ++ [f.c, f.d]) i + x)).map D.int, at_int (by simp; omega), set_int _ _ _ (by simp; omega), ?_⟩
  unfold bumpF
  split
  · rename_i hi2
    have e : (f.as ++ [f.c, f.d]).set i (geti (f.as ++ [f.c, f.d]) i + x) = f.as.set i (geti f.as i + x) ++ [f.c, f.d] := by rw [geti_app hi2, List.set_append, if_pos hi2]
    rw [e]
    exact sem_law_lowest n _ _ _ (by simp; omega) h.dpos
  · have hi3 : i = f.as.length := by omega
    have e : (f.as ++ [f.c, f.d]).set i (geti (f.as ++ [f.c, f.d]) i + x) = f.as ++ [f.c + x, f.d] := by
      subst hi3
      have g : geti (f.as ++ [f.c, f.d]) f.as.length = f.c := by simp [geti, List.getElem?_append_right]
      rw [g, List.set_append, if_neg (by omega)]
      simp
    rw [e]
    exact sem_law_lowest n _ _ _ (by omega) h.dpos
theorem sem_law_nudged (n : Nat) (h : WF m size phases count b B) {s : D} (hs : Src s) : ∃ a k pl i x s', tab.sem (n + 4) 81 [s, encMk m] = .ok (encMk (nudM size m a k pl i x), false, s') ∧ a < phases ∧ k < count ∧ pl ≤ size ∧ i ≤ size ∧ x.natAbs ≤ 2 ∧ Src s' := by
  rw [sem1 tab (n + 3) 81 b_81 _ _ rfl rfl rfl]
  have hz := h.sz
  have hp1 := h.p1
  have hc1 := h.c1
  have hc5 := h.c5
  have hp5 := h.p5
  have hpl := h.plen
  have hvl := h.vlen
  obtain ⟨a, s1, q1, u1, hs1⟩ := sem_drawN (n + 2) hs (m.phs.length : Int) (by omega)
  have ha : a < phases := by omega
  have hap := (h.at_ ha).2
  have hml := h.mvs _ hap
  obtain ⟨k, s2, q2, u2, hs2⟩ := sem_drawN (n + 2) hs1 ((phOf m a).2.length : Int) (by omega)
  have hk : k < count := by omega
  have gm := getV_mem (l := (phOf m a).2) (a := k) (by omega)
  obtain ⟨n1, n2, n3⟩ := h.nxt _ hap _ gm
  obtain ⟨pl, s3, q3, u3, hs3⟩ := sem_drawN (n + 2) hs2 ((m.vals.length : Int) + 1) (by omega)
  obtain ⟨i, s4, q4, u4, hs4⟩ := sem_drawN (n + 2) hs3 ((m.vals.length : Int) + 1) (by omega)
  obtain ⟨c, s5, q5, hc, hs5⟩ := sem_choice (n + 1) hs4 [.int 1, .int (-1), .int 2] (by simp)
  obtain ⟨x, rfl, hx⟩ : ∃ x : Int, c = .int x ∧ x.natAbs ≤ 2 := by
    simp at hc
    rcases hc with rfl | rfl | rfl <;> exact ⟨_, rfl, by omega⟩
  refine ⟨a, k, pl, i, x, s5, ?_, ha, hk, by omega, by omega, hx, hs5⟩
  have xa := ph_at h ha
  have xk := at_V (l := (phOf m a).2) (a := k) (by omega)
  have l3 : 3 ≤ line := by decide
  have l2 : 2 ≤ line := by decide
  have l1 : 1 ≤ line := by decide
  obtain ⟨r1, r2, r3, r4⟩ := repl_tup encPh m.phs a (nudP size (phOf m a) k pl i x) (by omega) (by omega)
  have em : encMk (nudM size m a k pl i x) = .tup [.int m.st, .tup (m.vals.map frac), .tup ((m.phs.set a (nudP size (phOf m a) k pl i x)).map encPh)] := rfl
  rw [em]
  have ka : ((a : Int) + 1) = ((a + 1 : Nat) : Int) := by omega
  by_cases hps : pl = size
  · obtain ⟨row, b1, b2, b3⟩ := bump_row (n + 1) (h.shn _ hap) (by omega) (i := i) (by omega) x
    have ep : encPh (nudP size (phOf m a) k pl i x) = .tup [encF (bumpF (phOf m a).1 i x), .tup ((phOf m a).2.map encMv)] := by unfold nudP; rw [if_pos hps]; rfl
    have cc : (pl : Int) = m.vals.length := by omega
    rw [ep] at r3 r4
    generalize hr0 : ((phOf m a).1.as ++ [(phOf m a).1.c, (phOf m a).1.d]).map D.int = r0 at *
    have lf : biD .list [encF (phOf m a).1] = some (.lst r0, true) := by rw [← hr0]; rfl
    simp -implicitDefEqProofs [-List.map_map, -List.map_take, -List.map_drop, -List.map_set, -Int.natCast_add, -List.append_assoc, b_81, q1, xa, q2, xk, q3, cc, lf, q4, b1, b2, b3, q5, l3, l2, l1, r1, r2, r3, r4, ka, optI, isNo, knd]
  · have fm := getF_mem (l := (getV (phOf m a).2 k).2) (a := pl) (by omega)
    have xf := at_F (l := (getV (phOf m a).2 k).2) (a := pl) (by omega)
    obtain ⟨row, b1, b2, b3⟩ := bump_row (n + 1) (n3 _ fm) (by omega) (i := i) (by omega) x
    obtain ⟨t1, t2, t3, t4⟩ := repl_tup encF (getV (phOf m a).2 k).2 pl (bumpF (getF (getV (phOf m a).2 k).2 pl) i x) (by omega) (by omega)
    obtain ⟨v1, v2, v3, v4⟩ := repl_tup encMv (phOf m a).2 k ((getV (phOf m a).2 k).1, (getV (phOf m a).2 k).2.set pl (bumpF (getF (getV (phOf m a).2 k).2 pl) i x)) (by omega) (by omega)
    have ep : encPh (nudP size (phOf m a) k pl i x) = .tup [encF (phOf m a).1, .tup (((phOf m a).2.set k ((getV (phOf m a).2 k).1, (getV (phOf m a).2 k).2.set pl (bumpF (getF (getV (phOf m a).2 k).2 pl) i x))).map encMv)] := by unfold nudP; rw [if_neg hps]; rfl
    have ev : encMv ((getV (phOf m a).2 k).1, (getV (phOf m a).2 k).2.set pl (bumpF (getF (getV (phOf m a).2 k).2 pl) i x)) = .tup [.int (getV (phOf m a).2 k).1, .tup (((getV (phOf m a).2 k).2.set pl (bumpF (getF (getV (phOf m a).2 k).2 pl) i x)).map encF)] := rfl
    have cc : ¬ (pl : Int) = m.vals.length := by omega
    rw [ep] at r3 r4
    rw [ev] at v3 v4
    generalize hr0 : ((getF (getV (phOf m a).2 k).2 pl).as ++ [(getF (getV (phOf m a).2 k).2 pl).c, (getF (getV (phOf m a).2 k).2 pl).d]).map D.int = r0 at *
    have lf : biD .list [encF (getF (getV (phOf m a).2 k).2 pl)] = some (.lst r0, true) := by rw [← hr0]; rfl
    have kp : ((pl : Int) + 1) = ((pl + 1 : Nat) : Int) := by omega
    have kk : ((k : Int) + 1) = ((k + 1 : Nat) : Int) := by omega
    simp -implicitDefEqProofs [-List.map_map, -List.map_take, -List.map_drop, -List.map_set, -Int.natCast_add, -List.append_assoc, b_81, q1, xa, q2, xk, q3, cc, xf, lf, q4, b1, b2, b3, q5, l3, l2, l1, r1, r2, r3, r4, t1, t2, t3, t4, v1, v2, v3, v4, ka, kp, kk, optI, isNo, knd]
end
end PK
end
section
set_option linter.all false
set_option maxRecDepth 100000
set_option maxHeartbeats 1000000
/-! PkW6: makes that are alike, or nearly so. -/
namespace PK
def lbB : Nat → Nat
  | 0 => 4
  | 1 => 11
  | 2 => 20
  | _ => 33
def lbD : Nat → Nat
  | 0 => 2
  | 1 => 4
  | 2 => 8
  | _ => 16
/-- sizes of the j-th make on the way -/
structure LikeJ (j size phases count : Nat) (m : Mke) : Prop where
  wf : WF m size phases count (lbB j) (17 + 5 * j)
  dn : Dn m (lbD j)
theorem like_step (n : Nat) {j size phases count : Nat} {m : Mke} (hj : j < 3) (h : LikeJ j size phases count m) {s : D} (hs : Src s) (w : Nat) (hw : w < 4) :
    ∃ m' size' s', tab.sem (n + 4) (if w = 0 then 81 else if w = 1 then 80 else if w = 2 then 79 else 78) [s, encMk m] = .ok (encMk m', false, s') ∧ LikeJ (j + 1) size' phases count m' ∧ Src s' := by
  have up1 : lbB j + 1 ≤ lbB (j + 1) ∧ lbB j + lbD j + 5 ≤ lbB (j + 1) := by rcases (by omega : j = 0 ∨ j = 1 ∨ j = 2) with rfl | rfl | rfl <;> decide
  have up2 : 2 * lbD j ≤ lbD (j + 1) ∧ lbD j ≤ lbB j ∧ 4 ≤ lbB j ∧ 2 ≤ lbD j ∧ lbB j + lbD j ≤ 100 := by rcases (by omega : j = 0 ∨ j = 1 ∨ j = 2) with rfl | rfl | rfl <;> decide
  rcases (by omega : w = 0 ∨ w = 1 ∨ w = 2 ∨ w = 3) with rfl | rfl | rfl | rfl
  · obtain ⟨a, k, pl, i, x, s', e, ha, hk, hpl, hi, hx, hs'⟩ := sem_law_nudged n h.wf hs
    have g := nudM_ok h.wf h.dn ha hk hpl hi hx
    exact ⟨_, size, s', e, ⟨g.1.mono up1.1 (by omega), g.2.mono (by omega)⟩, hs'⟩
  · obtain ⟨ns, s', e, hp, hs'⟩ := sem_law_renamed (n + 2) h.wf hs
    exact ⟨_, size, s', e, ⟨(renM_ok h.wf hp).mono (by omega) (by omega), (renM_dn h.wf h.dn hp).mono (by omega)⟩, hs'⟩
  · obtain ⟨m', size', s', e, g1, g2, hs', _⟩ := sem_law_wider n h.wf h.dn up2.2.2.1 up2.2.2.2.1 hs
    exact ⟨m', size', s', e, ⟨g1.mono (by omega) (by omega), g2.mono (by omega)⟩, hs'⟩
  · obtain ⟨m', s', e, g1, g2, hs', _⟩ := sem_law_turned n h.wf h.dn (by omega) up2.2.1 (by omega) hs
    exact ⟨m', size, s', e, ⟨g1.mono up1.2 (by omega), g2.mono up2.1⟩, hs'⟩
theorem like_loop (n : Nat) (x1 : Slot) : ∀ (l : List D) {j size phases count : Nat} {m : Mke} {s : D} (x3 x4 : Slot), j + l.length ≤ 3 → LikeJ j size phases count m → Src s →
    ∃ m' size' j' s' y3 y4, forL (tF (.nm 3)) (bF (tab.gl (n + 4)) L82_1) l [some (.io, s), x1, some (.f, encMk m), x3, x4] = .ok (.nx [some (.io, s'), x1, some (.f, encMk m'), y3, y4]) ∧ j' ≤ 3 ∧ LikeJ j' size' phases count m' ∧ Src s'
  | [], j, size, phases, count, m, s, x3, x4, hl, h, hs => ⟨m, size, j, s, x3, x4, rfl, by simpa using hl, h, hs⟩
  | y :: l, j, size, phases, count, m, s, x3, x4, hl, h, hs => by
    simp only [List.length_cons] at hl
    obtain ⟨w, s1, q1, u1, hs1⟩ := sem_drawN (n + 3) hs 4 (by omega)
    obtain ⟨W, hW⟩ : ∃ W : Int, W = w := ⟨_, rfl⟩
    rw [← hW] at q1
    obtain ⟨m1, size1, s2, q2, h2, hs2⟩ := like_step n (by omega) h hs1 w (by omega)
    obtain ⟨m3, size3, j3, s3, y3, y4, q3, hj3, h3, hs3⟩ := like_loop n x1 l (some (.f, y)) (some (.f, .int W)) (by omega : (j + 1) + l.length ≤ 3) h2 hs2
    refine ⟨m3, size3, j3, s3, y3, y4, ?_, hj3, h3, hs3⟩
    rcases (by omega : (w = 0 ∧ W = 0) ∨ (w = 1 ∧ W = 1) ∨ (w = 2 ∧ W = 2) ∨ (w = 3 ∧ W = 3)) with ⟨rfl, rfl⟩ | ⟨rfl, rfl⟩ | ⟨rfl, rfl⟩ | ⟨rfl, rfl⟩ <;> simp only [ite_true, ite_false, reduceIte, Nat.reduceEqDiff] at q2 <;> simp -implicitDefEqProofs [forL, q1, q2, q3]
theorem rangeD_len : ∀ (n : Nat) (lo : Int), (rangeD lo n).length = n
  | 0, _ => rfl
  | n + 1, lo => by rw [rangeD, List.length_cons, rangeD_len n]
theorem LikeJ.up {j size phases count : Nat} {m : Mke} (h : LikeJ j size phases count m) (hj : j ≤ 3) : WF m size phases count 33 32 ∧ Dn m 16 := by
  have : lbB j ≤ 33 ∧ lbD j ≤ 16 := by rcases (by omega : j = 0 ∨ j = 1 ∨ j = 2 ∨ j = 3) with rfl | rfl | rfl | rfl <;> decide
  exact ⟨h.wf.mono this.1 (by omega), h.dn.mono this.2⟩
theorem sem_law_like (n : Nat) {size phases count : Nat} {m : Mke} (h : WF m size phases count 4 17) (hd : Dn m 2) {s : D} (hs : Src s) : ∃ m' size' s', tab.sem (n + 5) 82 [s, encMk m] = .ok (encMk m', false, s') ∧ WF m' size' phases count 33 32 ∧ Dn m' 16 ∧ Src s' := by
  rw [sem1 tab (n + 4) 82 b_82 _ _ rfl rfl rfl]
  obtain ⟨t, s1, q1, u1, hs1⟩ := sem_drawN (n + 3) hs 4 (by omega)
  obtain ⟨m', size', j', s', y3, y4, q2, hj', h', hs'⟩ := like_loop n (some (.f, encMk m)) (rangeD 0 t) (j := 0) none none (by rw [rangeD_len]; omega) ⟨h, hd⟩ hs1
  refine ⟨m', size', s', ?_, (h'.up hj').1, (h'.up hj').2, hs'⟩
  have rk : rngOk (t : Int) = true := by simp [rngOk]; omega
  simp -implicitDefEqProofs [b_82, q1, rk, q2]
end PK
end
section
set_option linter.all false
set_option maxRecDepth 100000
set_option maxHeartbeats 1000000
/-! PkW7: the law's own search for the first row that parts. -/
namespace PK
theorem lt_app : ∀ {a b : Row} (x y : Row), a.length = b.length → a < b → a ++ x < b ++ y
  | [], [], x, y, _, h => absurd h (List.lt_irrefl _)
  | [], _ :: _, _, _, h, _ => by simp at h
  | _ :: _, [], _, _, h, _ => by simp at h
  | a :: as, b :: bs, x, y, hl, h => by
    rcases List.cons_lt_cons_iff.mp h with q | ⟨e, q⟩
    · exact List.cons_lt_cons_iff.mpr (.inl q)
    · exact List.cons_lt_cons_iff.mpr (.inr ⟨e, lt_app x y (by simpa using hl) q⟩)
theorem app_lt : ∀ (a : Row) {x y : Row}, x < y → a ++ x < a ++ y
  | [], _, _, h => h
  | a :: as, x, y, h => List.cons_lt_cons_iff.mpr (.inr ⟨rfl, app_lt as h⟩)
/-- the rows behind some rows -/
def nextR (c : Nat) (rs : List Row) : List Row := rs.flatMap fun r => (lets c).map fun k => r ++ [k]
/-- all rows of so many keys -/
def rowsN (c : Nat) : Nat → List Row
  | 0 => [[]]
  | t + 1 => nextR c (rowsN c t)
theorem rowsN_good {c : Nat} (hc : c ≤ 5) : ∀ {t : Nat} {r : Row}, r ∈ rowsN c t ↔ (GoodRow c r ∧ r.length = t)
  | 0, r => by
    simp only [rowsN, List.mem_singleton]
    constructor
    · rintro rfl; exact ⟨fun k hk => (by cases hk), rfl⟩
    · rintro ⟨_, h⟩; exact List.eq_nil_of_length_eq_zero h
  | t + 1, r => by
    simp only [rowsN, nextR, List.mem_flatMap, List.mem_map]
    constructor
    · rintro ⟨q, hq, k, hk, rfl⟩
      obtain ⟨g, hl⟩ := (rowsN_good hc).mp hq
      refine ⟨fun j hj => ?_, by simp [hl]⟩
      rcases List.mem_append.mp hj with hj | hj
      · exact g j hj
      · rw [List.mem_singleton.mp hj]; exact (mem_lets hc).mp hk
    · rintro ⟨g, hl⟩
      have hne : r ≠ [] := by rintro rfl; simp at hl
      refine ⟨r.dropLast, (rowsN_good hc).mpr ⟨fun k hk => g k (List.dropLast_subset _ hk), by simp [hl]⟩, r.getLast hne, (mem_lets hc).mpr (g _ (List.getLast_mem hne)), List.dropLast_concat_getLast hne⟩
theorem rowsN_sorted {c : Nat} (hc : c ≤ 5) : ∀ t, (rowsN c t).Pairwise (· < ·)
  | 0 => by simp [rowsN]
  | t + 1 => by
    simp only [rowsN, nextR]
    rw [List.pairwise_flatMap]
    refine ⟨fun r _ => ?_, ?_⟩
    · rw [List.pairwise_map]
      exact (lets_lt hc).imp fun h => app_lt r (by exact List.cons_lt_cons_iff.mpr (.inl h))
    · refine List.Pairwise.imp_of_mem (fun {a b} ha hb h x hx y hy => ?_) (rowsN_sorted hc t)
      obtain ⟨_, _, rfl⟩ := List.mem_map.mp hx
      obtain ⟨_, _, rfl⟩ := List.mem_map.mp hy
      exact lt_app _ _ (by rw [((rowsN_good hc).mp ha).2, ((rowsN_good hc).mp hb).2]) h
theorem nextR_len (c : Nat) : ∀ rs : List Row, (nextR c rs).length = rs.length * (lets c).length
  | [] => by simp [nextR]
  | r :: rs => by
    have := nextR_len c rs
    unfold nextR at this ⊢
    rw [List.flatMap_cons, List.length_append, this, List.length_map, List.length_cons, Nat.add_mul]
    omega
theorem rowsN_len (c : Nat) : ∀ t, (rowsN c t).length = (lets c).length ^ t
  | 0 => rfl
  | t + 1 => by rw [rowsN, nextR_len, rowsN_len c t, Nat.pow_succ]
/-- the first row with a property among the rows of t, t+1, ... keys -/
def firstN (p : Row → Bool) (c t : Nat) : Nat → Option Row
  | 0 => none
  | j + 1 => match (rowsN c t).find? p with
    | some r => some r
    | none => firstN p c (t + 1) j
theorem find_first {p : Row → Bool} : ∀ {l : List Row} {r : Row}, l.find? p = some r → l.Pairwise (· < ·) → ∀ q ∈ l, q < r → p q = false
  | [], r, h, _, q, hq, _ => by cases hq
  | x :: l, r, h, hp, q, hq, hlt => by
    rw [List.find?_cons] at h
    split at h
    · rename_i hx
      have h : x = r := by simpa using h
      subst h
      rcases List.mem_cons.mp hq with rfl | hq
      · exact absurd hlt (List.lt_irrefl _)
      · exact absurd hlt (List.lt_asymm ((List.pairwise_cons.mp hp).1 q hq))
    · rename_i hx
      rcases List.mem_cons.mp hq with rfl | hq
      · simpa using hx
      · exact find_first h (List.pairwise_cons.mp hp).2 q hq hlt
theorem firstN_some {p : Row → Bool} {c : Nat} (hc : c ≤ 5) : ∀ {j t : Nat} {r : Row}, firstN p c t j = some r → GoodRow c r ∧ p r = true ∧ r.length < t + j ∧ t ≤ r.length ∧ ∀ q, GoodRow c q → t ≤ q.length → rlt q r → p q = false
  | 0, t, r, h => by cases h
  | j + 1, t, r, h => by
    rw [firstN] at h
    split at h
    · rename_i r' hf
      have h : r' = r := by simpa using h
      subst h
      have m := (rowsN_good hc).mp (List.mem_of_find?_eq_some hf)
      refine ⟨m.1, List.find?_some hf, by omega, by omega, fun q hq hl hlt => ?_⟩
      rcases hlt with hlt | ⟨e, hlt⟩
      · omega
      · exact find_first hf (rowsN_sorted hc t) q ((rowsN_good hc).mpr ⟨hq, by omega⟩) hlt
    · rename_i hf
      obtain ⟨g1, g2, g3, g4, g5⟩ := firstN_some hc h
      refine ⟨g1, g2, by omega, by omega, fun q hq hl hlt => ?_⟩
      by_cases e : q.length = t
      · have := List.find?_eq_none.mp hf q ((rowsN_good hc).mpr ⟨hq, e⟩)
        simpa using this
      · exact g5 q hq (by omega) hlt
theorem firstN_none {p : Row → Bool} {c : Nat} (hc : c ≤ 5) : ∀ {j t : Nat}, firstN p c t j = none → ∀ q, GoodRow c q → t ≤ q.length → q.length < t + j → p q = false
  | 0, t, h, q, _, h1, h2 => by omega
  | j + 1, t, h, q, hq, h1, h2 => by
    rw [firstN] at h
    split at h
    · cases h
    · rename_i hf
      by_cases e : q.length = t
      · have := List.find?_eq_none.mp hf q ((rowsN_good hc).mpr ⟨hq, e⟩)
        simpa using this
      · exact firstN_none hc h q hq (by omega) (by omega)
def partsB (one other : Mke) (s t : Sta) (r : Row) : Bool := !decide (shownF one (behindF one s r) = shownF other (behindF other t r))
theorem partsB_iff {one other : Mke} {s t : Sta} {r : Row} : partsB one other s t r = true ↔ diffF one other s t r ≠ 0 := by
  unfold partsB diffF
  have : (shownF one (behindF one s r) = shownF other (behindF other t r)) ↔ (shownF one (behindF one s r) - shownF other (behindF other t r) = 0) := ⟨fun h => by rw [h]; grind, fun h => by grind⟩
  simp [this]
theorem first_is_parts {s1 s2 c : Nat} {one other : Mke} {s t : Sta} {o : Option Row} (hc : c ≤ 5) (h : Parts (s1 := s1) (s2 := s2) one other c s t o) {j : Nat} (hj : one.phs.length * other.phs.length * (s1 + s2 + 1) ≤ j) : firstN (partsB one other s t) c 0 j = o := by
  have key : ∀ q, partsB one other s t q = false ↔ diffF one other s t q = 0 := fun q => by
    have := partsB_iff (one := one) (other := other) (s := s) (t := t) (r := q)
    cases hq : partsB one other s t q <;> simp_all
  cases hf : firstN (partsB one other s t) c 0 j with
  | none =>
    cases o with
    | none => rfl
    | some r =>
      obtain ⟨a1, a2, a3, a4⟩ := h.some r rfl
      exact absurd ((key r).mp (firstN_none hc hf r a1 (by omega) (by omega))) a2
  | some r' =>
    obtain ⟨b1, b2, b3, b4, b5⟩ := firstN_some hc hf
    cases o with
    | none => exact absurd (h.none rfl r' b1) (partsB_iff.mp b2)
    | some r =>
      obtain ⟨a1, a2, a3, a4⟩ := h.some r rfl
      congr 1
      rcases rle_total r' r with q | q
      · rcases rle_total r r' with q' | q'
        · exact rle_anti q q'
        · exact absurd (a3 r' b1 q') (partsB_iff.mp b2)
      · exact absurd ((key r).mp (b5 r a1 (by omega) q)) a2
theorem parts_swap {s1 s2 c : Nat} {one other : Mke} {s t : Sta} {o : Option Row} (h : Parts (s1 := s1) (s2 := s2) one other c s t o) : Parts (s1 := s2) (s2 := s1) other one c t s o := by
  have e : ∀ r, diffF other one t s r = - diffF one other s t r := fun r => by unfold diffF; grind
  have e0 : ∀ r, diffF other one t s r = 0 ↔ diffF one other s t r = 0 := fun r => by rw [e]; constructor <;> intro h <;> grind
  refine ⟨fun hn r hr => (e0 r).mpr (h.none hn r hr), fun r hr => ?_⟩
  obtain ⟨a1, a2, a3, a4⟩ := h.some r hr
  refine ⟨a1, fun z => a2 ((e0 r).mp z), fun q hq hl => (e0 q).mpr (a3 q hq hl), ?_⟩
  rw [Nat.mul_comm other.phs.length, show s2 + s1 + 1 = s1 + s2 + 1 by omega]
  exact a4
theorem parts_self {s1 c : Nat} {one : Mke} {s : Sta} {o : Option Row} (h : Parts (s1 := s1) (s2 := s1) one one c s s o) : o = none := by
  cases o with
  | none => rfl
  | some r => exact absurd (by unfold diffF; grind) (h.some r rfl).2.1
theorem beh_snoc (m : Mke) (s : Sta) (r : Row) (k : Nat) : behindF m s (r ++ [k]) = pressF m (behindF m s r) k := by simp [behindF, List.foldl_append]
def itmL (one other : Mke) (s t : Sta) (r : Row) : D := .tup [.str r, encSt (behindF one s r), encSt (behindF other t r)]
section
variable {one other : Mke} {s1 s2 p1 p2 c b B1 B2 d1 d2 : Nat}
theorem key83 (n : Nat) (h1 : WF one s1 p1 c b B1) (h2 : WF other s2 p2 c b B2) {s t : Sta} {r : Row} {C : Nat} (hC : b + C < 66000000) (hs : StOk s1 p1 C (behindF one s r)) (ht : StOk s2 p2 C (behindF other t r)) (hrl : r.length ≤ 1000) (x2 x3 x4 : Slot) : ∀ (ks : List Nat) (acc : List D) (x9 : Slot), acc.length + ks.length ≤ 10000 → (∀ k ∈ ks, GoodK c k) →
    ∃ x9', forL (tF (.nm 9)) (bF (tab.gl (n + 4)) L83_1) (ks.map fun c => .str [c]) [some (.f, encMk one), some (.f, encMk other), x2, x3, x4, some (.o, .lst acc), some (.f, .str r), some (.f, encSt (behindF one s r)), some (.f, encSt (behindF other t r)), x9] = .ok (.nx [some (.f, encMk one), some (.f, encMk other), x2, x3, x4, some (.o, .lst (acc ++ ks.map fun k => itmL one other s t (r ++ [k]))), some (.f, .str r), some (.f, encSt (behindF one s r)), some (.f, encSt (behindF other t r)), x9'])
  | [], acc, x9, _, _ => ⟨x9, by simp [forL]⟩
  | k :: ks, acc, x9, hl, hk => by
    simp only [List.length_cons] at hl
    have e1 := sem_law_press n h1 hC hs (hk k (by simp))
    have e2 := sem_law_press n h2 hC ht (hk k (by simp))
    obtain ⟨x9', ih⟩ := key83 n h1 h2 hC hs ht hrl x2 x3 x4 ks (acc ++ [itmL one other s t (r ++ [k])]) (some (.f, .str [k])) (by simp; omega) (fun j hj => hk j (by simp [hj]))
    have a := app_lst acc (itmL one other s t (r ++ [k])) (by simp [line]; omega)
    have as : binD .add (.str r) (.str [k]) = some (.str (r ++ [k]), false) := add_str _ _ (by simp [line]; omega)
    have l3 : 3 ≤ line := by decide
    refine ⟨x9', ?_⟩
    have ei : itmL one other s t (r ++ [k]) = .tup [.str (r ++ [k]), encSt (pressF one (behindF one s r) k), encSt (pressF other (behindF other t r) k)] := by unfold itmL; rw [beh_snoc, beh_snoc]
    rw [ei] at a ih
    simp -implicitDefEqProofs [-List.append_assoc, forL, e1, e2, as, a, l3, knd]
    rw [ih]
    simp [ei]
end
end PK
end
section
set_option linter.all false
set_option maxRecDepth 100000
set_option maxHeartbeats 1000000
/-! PkW8: mirrors of the law's search. -/
namespace PK
section
variable {one other : Mke} {s1 s2 p1 p2 c b B1 B2 d1 d2 : Nat}
theorem lets_len {c : Nat} (h : c ≤ 5) : (lets c).length = c := by
  rcases (by omega : c = 0 ∨ c = 1 ∨ c = 2 ∨ c = 3 ∨ c = 4 ∨ c = 5) with rfl | rfl | rfl | rfl | rfl | rfl <;> rfl
theorem len_mk (h1 : WF one s1 p1 c b B1) : atZ (one.phs.map encPh) 0 = some (encPh (phOf one 0)) ∧ (phOf one 0).2.length = c := by
  have e := ph_at h1 (i := 0) h1.p1
  rw [Int.natCast_zero] at e
  exact ⟨e, h1.mvs _ (h1.at_ (i := 0) h1.p1).2⟩
theorem lev83 (n : Nat) (h1 : WF one s1 p1 c b B1) (h2 : WF other s2 p2 c b B2) {s t : Sta} {C : Nat} (hC : b + C < 66000000) (most turn : Nat) (x3 : Slot) : ∀ (rs : List Row) (acc : List D) (x6 x7 x8 x9 : Slot), acc.length + rs.length * c ≤ 10000 → (∀ r ∈ rs, r.length ≤ 1000 ∧ StOk s1 p1 C (behindF one s r) ∧ StOk s2 p2 C (behindF other t r)) →
    ∃ y5 y6 y7 y8 y9, forL (tF (.tp [(.nm 6), (.nm 7), (.nm 8)])) (bF (tab.gl (n + 4)) L83_2) (rs.map (itmL one other s t)) [some (.f, encMk one), some (.f, encMk other), some (.f, .int (most : Int)), x3, some (.f, .int (turn : Int)), some (.o, .lst acc), x6, x7, x8, x9] =
      match rs.find? (partsB one other s t) with
      | some r => .ok (.rt (.str r) false [some (.f, encMk one), some (.f, encMk other), some (.f, .int (most : Int)), x3, some (.f, .int (turn : Int)), y5, y6, y7, y8, y9])
      | none => .ok (.nx [some (.f, encMk one), some (.f, encMk other), some (.f, .int (most : Int)), x3, some (.f, .int (turn : Int)), some (.o, .lst (acc ++ if turn < most then (nextR c rs).map (itmL one other s t) else [])), y6, y7, y8, y9])
  | [], acc, x6, x7, x8, x9, _, _ => ⟨none, x6, x7, x8, x9, by simp [forL, nextR]⟩
  | r :: rs, acc, x6, x7, x8, x9, hl, hr => by
    obtain ⟨hrl, hs, ht⟩ := hr r (by simp)
    have hr' : ∀ q ∈ rs, q.length ≤ 1000 ∧ StOk s1 p1 C (behindF one s q) ∧ StOk s2 p2 C (behindF other t q) := fun q hq => hr q (by simp [hq])
    have e1 := sem_law_seen n h1 hC hs
    have e2 := sem_law_seen n h2 hC ht
    have e3 := ne_frac (shownF one (behindF one s r)) (shownF other (behindF other t r))
    have c5 := h1.c5
    rw [List.length_cons, Nat.add_mul, Nat.one_mul] at hl
    obtain ⟨m1, m2⟩ := len_mk h1
    have m3 := cut_lets c5
    have l5 : (lets c).length ≤ line := by rw [lets_len c5]; simp [line]; omega
    have sl : slD (.str [97, 98, 99, 100, 101]) none (some (c : Int)) = some (.str (lets c), false) := by
      show some (D.str (cut _ none (some (c : Int))), false) = _
      rw [m3]
    have l55 : 5 ≤ line := by decide
    have ei : itmL one other s t r = .tup [.str r, encSt (behindF one s r), encSt (behindF other t r)] := rfl
    rw [List.find?_cons, List.map_cons, ei]
    cases hp : partsB one other s t r with
    | true =>
      have e4 : cmpD .ne (frac (shownF one (behindF one s r))) (frac (shownF other (behindF other t r))) = some true := by rw [e3]; exact congrArg some hp
      exact ⟨some (.o, .lst acc), some (.f, .str r), some (.f, encSt (behindF one s r)), some (.f, encSt (behindF other t r)), x9, by simp -implicitDefEqProofs [forL, e1, e2, e4]⟩
    | false =>
      have e4 : cmpD .ne (frac (shownF one (behindF one s r))) (frac (shownF other (behindF other t r))) = some false := by rw [e3]; exact congrArg some hp
      by_cases hm : turn < most
      · obtain ⟨x9', k⟩ := key83 n h1 h2 hC hs ht hrl (some (.f, .int (most : Int))) x3 (some (.f, .int (turn : Int))) (lets c) acc x9 (by rw [lets_len c5]; omega) (fun k hk => (mem_lets c5).mp hk)
        obtain ⟨y5, y6, y7, y8, y9, ih⟩ := lev83 n h1 h2 hC most turn x3 rs (acc ++ (lets c).map fun k => itmL one other s t (r ++ [k])) (some (.f, .str r)) (some (.f, encSt (behindF one s r))) (some (.f, encSt (behindF other t r))) x9' (by rw [List.length_append, List.length_map, lets_len c5]; omega) hr'
        refine ⟨y5, y6, y7, y8, y9, ?_⟩
        simp -implicitDefEqProofs [-List.append_assoc, forL, e1, e2, e4, hm, m1, m2, sl, l5, l55, k, optI, isNo]
        rw [ih]
        simp [hm, nextR, Function.comp_def]
      · obtain ⟨y5, y6, y7, y8, y9, ih⟩ := lev83 n h1 h2 hC most turn x3 rs acc (some (.f, .str r)) (some (.f, encSt (behindF one s r))) (some (.f, encSt (behindF other t r))) x9 (by omega) hr'
        refine ⟨y5, y6, y7, y8, y9, ?_⟩
        simp -implicitDefEqProofs [-List.append_assoc, forL, e1, e2, e4, hm]
        rw [ih]
        simp [hm]
theorem out83 (n : Nat) (h1 : WF one s1 p1 c b B1) (h2 : WF other s2 p2 c b B2) {s t : Sta} {D1 : Nat} (hs : StOk s1 p1 D1 s) (ht : StOk s2 p2 D1 t) (most : Nat) (hm : most ≤ 900) (hC : b + (D1 + (most + 1) * (5 * b + 3)) < 66000000) (hx : c ^ (most + 1) ≤ 10000) (hc1 : 1 ≤ c) : ∀ (j turn : Nat) (w3 : Ow) (x4 x5 x6 x7 x8 x9 : Slot), (w3 = .o ∨ w3 = .f) → turn + j = most + 1 →
    ∃ y3 y4 y5 y6 y7 y8 y9, forL (tF (.nm 4)) (bF (tab.gl (n + 4)) L83_3) (rangeD turn j) [some (.f, encMk one), some (.f, encMk other), some (.f, .int (most : Int)), some (w3, .lst ((rowsN c turn).map (itmL one other s t))), x4, x5, x6, x7, x8, x9] =
      match firstN (partsB one other s t) c turn j with
      | some r => .ok (.rt (.str r) false [some (.f, encMk one), some (.f, encMk other), some (.f, .int (most : Int)), y3, y4, y5, y6, y7, y8, y9])
      | none => .ok (.nx [some (.f, encMk one), some (.f, encMk other), some (.f, .int (most : Int)), y3, y4, y5, y6, y7, y8, y9])
  | 0, turn, w3, x4, x5, x6, x7, x8, x9, _, _ => ⟨_, x4, x5, x6, x7, x8, x9, rfl⟩
  | j + 1, turn, w3, x4, x5, x6, x7, x8, x9, hw, hj => by
    have c5 := h1.c5
    have hpw : c ^ turn * c ≤ 10000 := by
      rw [← Nat.pow_succ]
      exact Nat.le_trans (Nat.pow_le_pow_right hc1 (by omega)) hx
    have hok : ∀ r ∈ rowsN c turn, r.length ≤ 1000 ∧ StOk s1 p1 (D1 + (most + 1) * (5 * b + 3)) (behindF one s r) ∧ StOk s2 p2 (D1 + (most + 1) * (5 * b + 3)) (behindF other t r) := fun r hr => by
      obtain ⟨g, hl⟩ := (rowsN_good c5).mp hr
      have hle : r.length * (5 * b + 3) ≤ (most + 1) * (5 * b + 3) := Nat.mul_le_mul_right _ (by omega)
      exact ⟨by omega, (behind_ok h1 hs g).mono (by omega), (behind_ok h2 ht g).mono (by omega)⟩
    obtain ⟨y5, y6, y7, y8, y9, e⟩ := lev83 n h1 h2 hC most turn (some (.f, .lst ((rowsN c turn).map (itmL one other s t)))) (rowsN c turn) [] x6 x7 x8 x9 (by rw [rowsN_len, lets_len c5]; simpa using hpw) hok
    rw [firstN, rangeD]
    have l0 : 0 ≤ line := by decide
    have el : (turn : Int) + 1 = ((turn + 1 : Nat) : Int) := by omega
    cases hf : (rowsN c turn).find? (partsB one other s t) with
    | some r =>
      rw [hf] at e
      refine ⟨some (.f, .lst ((rowsN c turn).map (itmL one other s t))), some (.f, .int (turn : Int)), y5, y6, y7, y8, y9, ?_⟩
      rcases hw with rfl | rfl <;> simp -implicitDefEqProofs [-List.map_map, forL, e, l0]
    | none =>
      rw [hf] at e
      by_cases hlast : turn < most
      · rw [if_pos hlast, List.nil_append] at e
        obtain ⟨z3, z4, z5, z6, z7, z8, z9, ih⟩ := out83 n h1 h2 hs ht most hm hC hx hc1 j (turn + 1) .f (some (.f, .int (turn : Int))) (some (.f, .lst ((nextR c (rowsN c turn)).map (itmL one other s t)))) y6 y7 y8 y9 (.inr rfl) (by omega)
        refine ⟨z3, z4, z5, z6, z7, z8, z9, ?_⟩
        rw [el]
        rcases hw with rfl | rfl <;> (simp -implicitDefEqProofs [-List.map_map, -Int.natCast_add, forL, e, l0]; exact ih)
      · have hj0 : j = 0 := by omega
        subst hj0
        rw [if_neg hlast, List.nil_append] at e
        refine ⟨some (.f, .lst []), some (.f, .int (turn : Int)), some (.f, .lst []), y6, y7, y8, y9, ?_⟩
        rcases hw with rfl | rfl <;> simp -implicitDefEqProofs [-List.map_map, forL, e, l0, rangeD, firstN]
theorem sem_law_parts_at (n : Nat) (h1 : WF one s1 p1 c b B1) (h2 : WF other s2 p2 c b B2) (most : Nat) (hm : most ≤ 900) (hC : b + (B1 + B2 + (most + 1) * (5 * b + 3)) < 66000000) (hx : c ^ (most + 1) ≤ 10000) :
    tab.sem (n + 5) 83 [encMk one, encMk other, .int (most : Int)] = .ok (optS (firstN (partsB one other (one.st, one.vals) (other.st, other.vals)) c 0 (most + 1)), false, .non) := by
  rw [sem0 tab (n + 4) 83 b_83 _ rfl rfl rfl]
  obtain ⟨y3, y4, y5, y6, y7, y8, y9, e⟩ := out83 n h1 h2 (h1.first.mono (by omega : B1 ≤ B1 + B2)) (h2.first.mono (by omega : B2 ≤ B1 + B2)) most hm hC hx h1.c1 (most + 1) 0 .o none none none none none none (.inl rfl) (by omega)
  have ei : (rowsN c 0).map (itmL one other (one.st, one.vals) (other.st, other.vals)) = [.tup [.str [], encSt (one.st, one.vals), encSt (other.st, other.vals)]] := rfl
  rw [ei] at e
  have l1 : 1 ≤ line := by decide
  have l3 : 3 ≤ line := by decide
  have em : (most : Int) + 1 = ((most + 1 : Nat) : Int) := by omega
  have rk : rngOk ((most + 1 : Nat) : Int) = true := by simp [rngOk]; omega
  have z0 : ((0 : Nat) : Int) = 0 := rfl
  rw [z0] at e
  cases hf : firstN (partsB one other (one.st, one.vals) (other.st, other.vals)) c 0 (most + 1) with
  | some r =>
    rw [hf] at e
    simp -implicitDefEqProofs [-Int.natCast_add, b_83, cut_mk, l1, l3, em, rk, e, optI, isNo, optS]
  | none =>
    rw [hf] at e
    simp -implicitDefEqProofs [-Int.natCast_add, b_83, cut_mk, l1, l3, em, rk, e, optI, isNo, optS]
end
end PK
end
section
set_option linter.all false
set_option maxRecDepth 100000
set_option maxHeartbeats 1000000
/-! PkW9: k03's law. -/
namespace PK
theorem fits_all {n w b d1 d2 : Nat} (hn : n ≤ 25) (hw : w ≤ 10) (hb : b ≤ 33) (hd : d1 + d2 ≤ 18) : Fits n w b d1 d2 := by
  unfold Fits
  have h1 : n * w ≤ 250 := Nat.mul_le_mul hn hw
  have h2 : (n * w + 1) * (b + 4 * d1 + 4 * d2 + 3) ≤ 251 * 108 := Nat.mul_le_mul (by omega) (by omega)
  have h3 : 2 ^ w ≤ 2 ^ 10 := Nat.pow_le_pow_right (by omega) hw
  have h4 : 2 ^ w * (b + b + (n * w + 1) * (b + 4 * d1 + 4 * d2 + 3) + 1) ≤ 2 ^ 10 * (33 + 33 + 251 * 108 + 1) := Nat.mul_le_mul h3 (by omega)
  exact Nat.le_trans h4 (by decide)
theorem shal_opt (o : Option Row) (h : ∀ r, o = some r → ∀ k ∈ r, k < 1114112) : shal 40 (optS o) = true := by
  cases o with
  | none => rfl
  | some r =>
    have := h r rfl
    simpa [optS, shal] using this
/-- all that the package answers about two makes -/
structure Pair (n : Nat) (one other : Mke) (s1 s2 p1 p2 : Nat) (o : Option Row) : Prop where
  alk : tab.sem (n + 11) 72 [encMk one, encMk other] = .ok (.bl o.isNone, false, .non)
  par : tab.sem (n + 11) 73 [encMk one, encMk other] = .ok (optS o, false, .non)
  bnd : tab.sem (n + 11) 74 [encMk one, encMk other] = .ok (.int ((p1 * p2 * (s1 + s2 + 1) : Nat) : Int), false, .non)
theorem pair_all (n : Nat) {one other : Mke} {s1 s2 p1 p2 c b d1 d2 B : Nat} (h1 : WF one s1 p1 c b B) (h2 : WF other s2 p2 c b B) (e1 : Dn one d1) (e2 : Dn other d2) (hb : b ≤ 33) (hd : d1 + d2 ≤ 18) (hB : B ≤ 1000) :
    ∃ o, Pair n one other s1 s2 p1 p2 o ∧ Pair n other one s2 s1 p2 p1 o ∧ Parts (s1 := s1) (s2 := s2) one other c (one.st, one.vals) (other.st, other.vals) o := by
  have hz1 := h1.sz
  have hz2 := h2.sz
  have hp : p1 * p2 ≤ 25 := Nat.mul_le_mul h1.p5 h2.p5
  have hp' : p2 * p1 ≤ 25 := Nat.mul_le_mul h2.p5 h1.p5
  have f := fits_all (n := p1 * p2) (w := s1 + s2 + 2) (b := b) (d1 := d1) (d2 := d2) hp (by omega) hb hd
  have f' := fits_all (n := p2 * p1) (w := s2 + s1 + 2) (b := b) (d1 := d2) (d2 := d1) hp' (by omega) hb (by omega)
  obtain ⟨o, a1, a2⟩ := sem_alike n h1 h2 e1 e2 f (by omega)
  obtain ⟨o', b1, b2⟩ := sem_parting_row (n + 1) h1 h2 e1 e2 f (by omega)
  obtain ⟨o3, c1, c2⟩ := sem_alike n h2 h1 e2 e1 f' (by omega)
  obtain ⟨o4, q1, q2⟩ := sem_parting_row (n + 1) h2 h1 e2 e1 f' (by omega)
  have := parts_one a2 b2
  subst this
  have := parts_one a2 (parts_swap c2)
  subst this
  have := parts_one a2 (parts_swap q2)
  subst this
  exact ⟨o, ⟨a1, b1, sem_bound (n + 2) h1 h2⟩, ⟨c1, q1, sem_bound (n + 2) h2 h1⟩, a2⟩
theorem pair_self (n : Nat) {one : Mke} {s1 p1 c b d1 B : Nat} (h1 : WF one s1 p1 c b B) (e1 : Dn one d1) (hb : b ≤ 33) (hd : d1 + d1 ≤ 18) (hB : B ≤ 1000) : tab.sem (n + 11) 72 [encMk one, encMk one] = .ok (.bl true, false, .non) := by
  obtain ⟨o, a, _, p⟩ := pair_all n h1 h1 e1 e1 hb hd hB
  have := parts_self p
  subst this
  exact a.alk
theorem due_mul {one other : Mke} {s1 s2 p1 p2 c b b' B1 B2 : Nat} (h1 : WF one s1 p1 c b B1) (h2 : WF other s2 p2 c b' B2) : (one.phs.length : Int) = p1 ∧ (other.phs.length : Int) = p2 ∧ ((one.vals.length : Int) + (other.vals.length : Int) + 1) = ((s1 + s2 + 1 : Nat) : Int) ∧ binD .mul (.int (p1 : Int)) (.int (p2 : Int)) = some (.int ((p1 * p2 : Nat) : Int), false) ∧ binD .mul (.int ((p1 * p2 : Nat) : Int)) (.int ((s1 + s2 + 1 : Nat) : Int)) = some (.int ((p1 * p2 * (s1 + s2 + 1) : Nat) : Int), false) := by
  have hz1 := h1.sz
  have hz2 := h2.sz
  have hpp : p1 * p2 ≤ 25 := Nat.mul_le_mul h1.p5 h2.p5
  have hp5 := h1.p5
  have hq5 := h2.p5
  have m1 := bin_mul_int (p1 : Int) (p2 : Int) (mulOk_nat (by omega) (by omega))
  have m2 := bin_mul_int ((p1 * p2 : Nat) : Int) ((s1 + s2 + 1 : Nat) : Int) (mulOk_nat (by omega) (by omega))
  rw [← Int.natCast_mul] at m1 m2
  exact ⟨by rw [h1.plen], by rw [h2.plen], by rw [h1.vlen, h2.vlen]; omega, m1, m2⟩
theorem mid03 (n : Nat) {s : D} (p a : Slot) (a2 a3 a5 a6 a7 a8 a9 : Slot) (hs : Src s) : ∃ (s' : D) (b2 b3 b5 b6 b7 b8 b9 : Slot), forL (tF (.nm 5)) (bF (tab.gl (n + 11)) L84_1) (rangeD 0 3) [p, a, a2, a3, some (.o, s), a5, a6, a7, a8, a9] = .ok (.nx [p, a, b2, b3, some (.o, s'), b5, b6, b7, b8, b9]) ∧ Src s' := by
  obtain ⟨env', e, s', b2, b3, b5, b6, b7, b8, b9, rfl, hs'⟩ := for_draw (ft := tF (.nm 5)) (fb := bF (tab.gl (n + 11)) L84_1)
    (I := fun env => ∃ s' b2 b3 b5 b6 b7 b8 b9, env = [p, a, b2, b3, some (.o, s'), b5, b6, b7, b8, b9] ∧ Src s') 3
    (fun j env _ ⟨s1, b2, b3, b5, b6, b7, b8, b9, he, hs1⟩ => by
      subst he
      obtain ⟨r1, s2, e1, u1, hs2⟩ := sem_drawN (n + 10) hs1 2 (by omega)
      obtain ⟨r2, s3, e2, u2, hs3⟩ := sem_drawN (n + 10) hs2 3 (by omega)
      obtain ⟨w, hw, hw1, hw3⟩ : ∃ w : Int, atZ [D.int 3, D.int 2] (((1 + r1 : Nat) : Int) - 1) = some (.int w) ∧ 1 ≤ w ∧ w ≤ 3 := by
        rcases (by omega : r1 = 0 ∨ r1 = 1) with rfl | rfl
        · exact ⟨3, rfl, by omega, by omega⟩
        · exact ⟨2, rfl, by omega, by omega⟩
      obtain ⟨r3, s4, e3, u3, hs4⟩ := sem_drawN (n + 10) hs3 w hw1
      obtain ⟨one, s5, e4, h1, d1, hs5⟩ := sem_makeD (n + 6) r2 (1 + r3) (1 + r1) (by omega) (by omega) (by omega) (by omega) (by omega) hs4
      obtain ⟨oth1, sz1, s6, e5, g1, g2, hs6⟩ := sem_law_like (n + 6) h1 d1 hs5
      obtain ⟨r4, s7, e6, u4, hs7⟩ := sem_drawN (n + 10) hs6 4 (by omega)
      obtain ⟨r5, s8, e7, u5, hs8⟩ := sem_drawN (n + 10) hs7 3 (by omega)
      obtain ⟨r6, s9, e8, u6, hs9⟩ := sem_drawN (n + 10) hs8 2 (by omega)
      obtain ⟨oth2, s10, e9, h2, d2, hs10⟩ := sem_makeD (n + 6) r5 (1 + r6) (1 + r1) (by omega) (by omega) (by omega) (by omega) (by omega) hs9
      have k1 : (1 : Int) + (r1 : Int) = ((1 + r1 : Nat) : Int) := by omega
      have k3 : (1 : Int) + (r3 : Int) = ((1 + r3 : Nat) : Int) := by omega
      have k6 : (1 : Int) + (r6 : Int) = ((1 + r6 : Nat) : Int) := by omega
      obtain ⟨other, size, phs, sl, hh, hd, hsl, hph2, hph⟩ : ∃ (other : Mke) (size phs : Nat) (sl : D), WF other size phs (1 + r1) 33 32 ∧ Dn other 16 ∧ Src sl ∧ ((r4 = 0 ∧ other = oth2 ∧ sl = s10) ∨ (¬ r4 = 0 ∧ other = oth1 ∧ sl = s7)) ∧ phs ≤ 3 := by
        by_cases z : r4 = 0
        · exact ⟨oth2, r5, 1 + r6, s10, h2.mono (by omega) (by omega), d2.mono (by omega), hs10, .inl ⟨z, rfl, rfl⟩, by omega⟩
        · exact ⟨oth1, sz1, 1 + r3, s7, g1, g2, hs7, .inr ⟨z, rfl, rfl⟩, by omega⟩
      obtain ⟨o, P1, P2, hp⟩ := pair_all n (h1.mono (by omega : 4 ≤ 33) (by omega : 17 ≤ 32)) hh d1 hd (by omega) (by omega) (by omega)
      have ps := pair_self n (h1.mono (by omega : 4 ≤ 33) (by omega : 17 ≤ 32)) d1 (by omega) (by omega) (by omega)
      obtain ⟨x1, x2, x3, x4, x5⟩ := due_mul h1 hh
      have hz2 := hh.sz
      have hpp : (1 + r3) * phs ≤ 3 * 3 := Nat.mul_le_mul (by omega) hph
      have hpp1 : 1 ≤ (1 + r3) * phs := Nat.mul_pos (by omega) hh.p1
      have hdl : (1 + r3) * phs * (r2 + size + 1) ≤ 3 * 3 * 7 := Nat.mul_le_mul hpp (by omega)
      have hd1 : 1 ≤ (1 + r3) * phs * (r2 + size + 1) := Nat.mul_pos hpp1 (by omega)
      have swp : phs * (1 + r3) * (size + r2 + 1) = (1 + r3) * phs * (r2 + size + 1) := by rw [Nat.mul_comm phs, show size + r2 + 1 = r2 + size + 1 by omega]
      have fp := first_is_parts h1.c5 hp (j := (1 + r3) * phs * (r2 + size + 1)) (by rw [h1.plen, hh.plen]; exact Nat.le_refl _)
      have pb := P1.bnd
      have pb' := P2.bnd
      rw [swp] at pb'
      have pp := P1.par
      have pp' := P2.par
      have pa := P1.alk
      have rk : rngOk 3 = true := by decide
      have ib : cmpD .isnt (.bl true) (.bl true) = some false := by rfl
      have l2 : 2 ≤ line := by decide
      have so : shal 40 (optS o) = true := shal_opt o fun r hr k hk => by
        have := ((hp.some r hr).1 k hk).2
        omega
      have no := ne_refl so
      have nb := ne_refl (d := .bl o.isNone) rfl
      have iso := is_opt o
      generalize hdue : (1 + r3) * phs * (r2 + size + 1) = due at *
      have nd := ne_refl (d := .int (due : Int)) rfl
      have cI' : ((due : Nat) : Int) - 1 = ((due - 1 : Nat) : Int) := by omega
      obtain ⟨cI, hcI⟩ : ∃ cI : Int, ((1 + r1 : Nat) : Int) = cI := ⟨_, rfl⟩
      obtain ⟨dI, hdI⟩ : ∃ dI : Int, ((due : Nat) : Int) = dI := ⟨_, rfl⟩
      rw [hcI] at e4 e9 hw k1
      rw [hdI] at pb pb' nd x5 cI'
      by_cases hask : cI = 1 ∨ dI ≤ 9
      · have hpa := sem_law_parts_at (n + 6) (h1.mono (by omega : 4 ≤ 33) (by omega : 17 ≤ 32)) hh (due - 1) (by omega) (by omega) (by
          rw [show due - 1 + 1 = due by omega]
          rcases hask with q | q
          · rw [show 1 + r1 = 1 by omega, Nat.one_pow]; omega
          · exact Nat.le_trans (Nat.pow_le_pow_left (by omega : 1 + r1 ≤ 2) due) (Nat.le_trans (Nat.pow_le_pow_right (by omega) (by omega : due ≤ 9)) (by decide)))
        rw [show due - 1 + 1 = due by omega, fp] at hpa
        refine ⟨_, _, rfl, ?_, sl, some (.f, encMk one), some (.f, encMk other), some (.f, .int j), some (.f, .int cI), some (.f, .int dI), some (.f, optS o), some (.f, .bl o.isNone), rfl, hsl⟩
        by_cases hc1 : cI = 1
        · subst hc1
          have hw' : some (D.int 3) = some (.int w) := hw
          obtain rfl : 3 = w := by simpa using hw'
          rcases hph2 with ⟨z, rfl, rfl⟩ | ⟨z, rfl, rfl⟩ <;> simp -implicitDefEqProofs [-Int.natCast_add, -Int.natCast_mul, e1, e2, k1, k3, k6, hw, e3, e4, e5, e6, e7, e8, e9, z, x1, x2, x3, x4, x5, pb, pb', nd, cI', hpa, pa, pp, pp', no, iso, nb, ps, l2, ib]
        · have h9 : dI ≤ 9 := by rcases hask with q | q; exact absurd q hc1; exact q
          rcases hph2 with ⟨z, rfl, rfl⟩ | ⟨z, rfl, rfl⟩ <;> simp -implicitDefEqProofs [-Int.natCast_add, -Int.natCast_mul, e1, e2, k1, k3, k6, hw, e3, e4, e5, e6, e7, e8, e9, z, x1, x2, x3, x4, x5, pb, pb', nd, hc1, h9, cI', hpa, pa, pp, pp', no, iso, nb, ps, l2, ib]
      · have hc1 : ¬ cI = 1 := fun q => hask (.inl q)
        have h9 : ¬ dI ≤ 9 := fun q => hask (.inr q)
        refine ⟨_, _, rfl, ?_, sl, some (.f, encMk one), some (.f, encMk other), some (.f, .int j), some (.f, .int cI), some (.f, .int dI), b8, b9, rfl, hsl⟩
        rcases hph2 with ⟨z, rfl, rfl⟩ | ⟨z, rfl, rfl⟩ <;> simp -implicitDefEqProofs [-Int.natCast_add, -Int.natCast_mul, e1, e2, k1, k3, k6, hw, e3, e4, e5, e6, e7, e8, e9, z, x1, x2, x3, x4, x5, pb, pb', nd, hc1, h9, l2]) ⟨s, a2, a3, a5, a6, a7, a8, a9, rfl, hs⟩
  exact ⟨s', b2, b3, b5, b6, b7, b8, b9, e, hs'⟩
end PK
end
section
set_option linter.all false
set_option maxRecDepth 100000
set_option maxHeartbeats 1000000
/-! PkW10: k03's law. -/
namespace PK
theorem out03 (n : Nat) (ns : List Int) (k : Nat) (hk : k ≤ 63) : ∃ (a b c d e f g h i : Slot), forL (tF (.nm 1)) (bF (tab.gl (n + 11)) L84_2) (rangeD 0 k) [some (.f, .scr (ns.map D.int)), none, none, none, none, none, none, none, none, none] = .ok (.nx [some (.f, .scr (ns.map D.int)), a, b, c, d, e, f, g, h, i]) := by
  obtain ⟨env', e, a, b, c, d, e1, f, g, h, i, rfl⟩ := for_draw (ft := tF (.nm 1)) (fb := bF (tab.gl (n + 11)) L84_2)
    (I := fun env => ∃ a b c d e f g h i, env = [some (.f, .scr (ns.map D.int)), a, b, c, d, e, f, g, h, i]) k
    (fun z env hj ⟨a, b, c, d, e, f, g, h, i, he⟩ => by
      subst he
      obtain ⟨s, e1, hs⟩ := sem_source (n + 10) ns z (by omega)
      obtain ⟨s', b2, b3, b5, b6, b7, b8, b9, e2, hs'⟩ := mid03 n (some (.f, .scr (ns.map D.int))) (some (.f, .int z)) b c e f g h i hs
      have rk : rngOk 3 = true := by decide
      refine ⟨_, _, rfl, ?_, some (.f, .int z), b2, b3, some (.o, s'), b5, b6, b7, b8, b9, rfl⟩
      simp -implicitDefEqProofs [e1, rk, e2]) ⟨none, none, none, none, none, none, none, none, none, rfl⟩
  exact ⟨a, b, c, d, e1, f, g, h, i, e⟩
def twoA : Mke := ⟨0, [0], [(⟨[0], 1, 1⟩, [(1, [⟨[1], 1, 1⟩])]), (⟨[0], 1, 1⟩, [(0, [⟨[1], 0, 1⟩])])]⟩
def oneA : Mke := ⟨0, [], [(⟨[], 1, 1⟩, [(0, [])])]⟩
theorem vals_bd (m : Mke) (h : m.vals = [0]) : Bd 17 m.vals := ⟨1, by decide, by decide, fun q hq => ⟨0, by rw [h] at hq; simp at hq; subst hq; decide +kernel, by decide⟩⟩
/-- the facts of a fixed make, as one test -/
def okFb (size b : Nat) (f : Fo) : Bool := decide (f.as.length = size) && decide (1 ≤ f.d) && decide (gcdL 0 (f.as ++ [f.c, f.d]) = 1) && (f.as ++ [f.c, f.d]).all fun i => decide (i.natAbs < 2 ^ b)
theorem okF_of {size b : Nat} {f : Fo} (h : okFb size b f = true) : OkF size b f := by
  simp only [okFb, Bool.and_eq_true, decide_eq_true_eq, List.all_eq_true] at h
  exact ⟨h.1.1.1, h.1.1.2, h.1.2, h.2⟩
def wfb (m : Mke) (size phases count b d : Nat) : Bool := decide (m.st < phases) && decide (m.vals.length = size) && decide (m.phs.length = phases) && m.phs.all (fun p => okFb size b p.1 && decide (p.1.d.natAbs < 2 ^ d) && decide (p.2.length = count) && p.2.all fun v => decide (v.1 < phases) && decide (v.2.length = size) && v.2.all fun f => okFb size b f && decide (f.d.natAbs < 2 ^ d)) && decide (size ≤ 4) && decide (1 ≤ phases) && decide (phases ≤ 5) && decide (1 ≤ count) && decide (count ≤ 5) && decide (1 ≤ b)
theorem wf_of {m : Mke} {size phases count b d B : Nat} (hv : Bd B m.vals) (h : wfb m size phases count b d = true) : WF m size phases count b B ∧ Dn m d := by
  simp only [wfb, Bool.and_eq_true, decide_eq_true_eq, List.all_eq_true] at h
  obtain ⟨⟨⟨⟨⟨⟨⟨⟨⟨h1, h2⟩, h3⟩, h4⟩, h5⟩, h6⟩, h7⟩, h8⟩, h9⟩, h10⟩ := h
  refine ⟨{ st := h1, vlen := h2, vbd := hv, plen := h3, shn := fun p hp => okF_of (h4 p hp).1.1.1, mvs := fun p hp => (h4 p hp).1.2, nxt := fun p hp v hv => ⟨((h4 p hp).2 v hv).1.1, ((h4 p hp).2 v hv).1.2, fun f hf => okF_of (((h4 p hp).2 v hv).2 f hf).1⟩, sz := h5, p1 := h6, p5 := h7, c1 := h8, c5 := h9, b1 := h10 }, fun p hp => ⟨(h4 p hp).1.1.2, fun v hv f hf => (((h4 p hp).2 v hv).2 f hf).2⟩⟩
theorem twoA_wf : WF twoA 1 2 1 4 17 ∧ Dn twoA 2 := wf_of (vals_bd _ rfl) (by decide)
theorem oneA_wf : WF oneA 0 1 1 4 17 ∧ Dn oneA 2 := wf_of ⟨1, by decide, by decide, fun q hq => by simp [oneA] at hq⟩ (by decide)
/-- the first three lengths of rows suffice: what both show behind each row of fewer than 4 keys -/
theorem two_one_same : ∀ j < 4, (rowsN 1 j).all (fun r => !partsB twoA oneA (twoA.st, twoA.vals) (oneA.st, oneA.vals) r) = true := by decide +kernel
theorem firstN_of {p : Row → Bool} {c : Nat} : ∀ (j t : Nat), (∀ i, t ≤ i → i < t + j → (rowsN c i).all (fun r => !p r) = true) → firstN p c t j = none
  | 0, t, h => rfl
  | j + 1, t, h => by
    have h0 := h t (Nat.le_refl _) (by omega)
    rw [firstN]
    have e : (rowsN c t).find? p = none := List.find?_eq_none.mpr fun r hr => by
      have := List.all_eq_true.mp h0 r hr
      simpa using this
    rw [e]
    exact firstN_of j (t + 1) fun i h1 h2 => h i (by omega) (by omega)
theorem k03_law (ns : List Int) (h63 : ns.length ≤ 63) : ∃ fr lt, tab.sem 60 84 [.scr (ns.map D.int)] = .ok (.bl true, fr, lt) := by
  rw [sem0 tab 59 84 b_84 _ rfl rfl rfl]
  obtain ⟨m, hm, hm63⟩ : ∃ m : Nat, 1 + (if 6 < (ns.length : Int) then 6 else (ns.length : Int)) = m ∧ m ≤ 63 := by
    split
    · exact ⟨7, rfl, by omega⟩
    · exact ⟨1 + ns.length, by omega, by omega⟩
  obtain ⟨a, b, c, d, e, f, g, h, i, e1⟩ := out03 48 ns m hm63
  have rk : rngOk (m : Int) = true := by simp [rngOk]; omega
  obtain ⟨o, P, _, hp⟩ := pair_all 48 twoA_wf.1 oneA_wf.1 twoA_wf.2 oneA_wf.2 (by omega) (by omega) (by omega)
  have ho : o = none := by
    rw [← first_is_parts (by omega) hp (j := 4) (by decide)]
    exact firstN_of 4 0 fun i h1 h2 => two_one_same i (by omega)
  subst ho
  have pa := P.alk
  have pp := P.par
  have pb := P.bnd
  have e2 : encMk twoA = (.tup [.int 0, .tup [.tup [.int 0, .int 1]], .tup [.tup [.tup [.int 0, .int 1, .int 1], .tup [.tup [.int 1, .tup [.tup [.int 1, .int 1, .int 1]]]]], .tup [.tup [.int 0, .int 1, .int 1], .tup [.tup [.int 0, .tup [.tup [.int 1, .int 0, .int 1]]]]]]]) := rfl
  have e3 : encMk oneA = (.tup [.int 0, .tup [], .tup [.tup [.tup [.int 1, .int 1], .tup [.tup [.int 0, .tup []]]]]]) := rfl
  rw [e2, e3] at pa pp pb
  have i1 : cmpD .is (.bl true) (.bl true) = some true := by rfl
  have i2 : cmpD .is .non .non = some true := by rfl
  have pb' : tab.sem 59 74 [(.tup [.int 0, .tup [.tup [.int 0, .int 1]], .tup [.tup [.tup [.int 0, .int 1, .int 1], .tup [.tup [.int 1, .tup [.tup [.int 1, .int 1, .int 1]]]]], .tup [.tup [.int 0, .int 1, .int 1], .tup [.tup [.int 0, .tup [.tup [.int 1, .int 0, .int 1]]]]]]]), (.tup [.int 0, .tup [], .tup [.tup [.tup [.int 1, .int 1], .tup [.tup [.int 0, .tup []]]]]])] = .ok (.int 4, false, .non) := pb
  have pa' : tab.sem 59 72 [(.tup [.int 0, .tup [.tup [.int 0, .int 1]], .tup [.tup [.tup [.int 0, .int 1, .int 1], .tup [.tup [.int 1, .tup [.tup [.int 1, .int 1, .int 1]]]]], .tup [.tup [.int 0, .int 1, .int 1], .tup [.tup [.int 0, .tup [.tup [.int 1, .int 0, .int 1]]]]]]]), (.tup [.int 0, .tup [], .tup [.tup [.tup [.int 1, .int 1], .tup [.tup [.int 0, .tup []]]]]])] = .ok (.bl true, false, .non) := pa
  have pp' : tab.sem 59 73 [(.tup [.int 0, .tup [.tup [.int 0, .int 1]], .tup [.tup [.tup [.int 0, .int 1, .int 1], .tup [.tup [.int 1, .tup [.tup [.int 1, .int 1, .int 1]]]]], .tup [.tup [.int 0, .int 1, .int 1], .tup [.tup [.int 0, .tup [.tup [.int 1, .int 0, .int 1]]]]]]]), (.tup [.int 0, .tup [], .tup [.tup [.tup [.int 1, .int 1], .tup [.tup [.int 0, .tup []]]]]])] = .ok (.non, false, .non) := pp
  exact ⟨false, .non, by simp -implicitDefEqProofs [b_84, hm, rk, e1, pa', pp', pb', i1, i2, line]⟩
end PK
end
section
set_option Elab.async false
set_option linter.all false
set_option maxRecDepth 100000
set_option maxHeartbeats 0
namespace Rk03
open PySem PySem.Spec PyProof.Rows L2 PK
def top (i : Nat) : Stmt := PySem.Challenge.rw_pocketkeys_k03_whole_all_rows_below_the.prog.main.body.getD i (.Pass ⟨0, 0, 0, 0⟩)
def d_0 : FD := ⟨0, "is_integer", ["value"], ["value"], defArgs (top 7), defBody (top 7), defScope (top 7)⟩
def d_1 : FD := ⟨1, "is_between", ["value", "low", "high"], ["value", "low", "high"], defArgs (top 8), defBody (top 8), defScope (top 8)⟩
def d_2 : FD := ⟨2, "divisor", ["one", "other"], ["one", "other", "first", "second"], defArgs (top 9), defBody (top 9), defScope (top 9)⟩
def d_3 : FD := ⟨3, "common", ["numbers"], ["numbers", "found", "number"], defArgs (top 10), defBody (top 10), defScope (top 10)⟩
def d_28 : FD := ⟨28, "lowest", ["top", "bottom"], ["top", "bottom", "shared"], defArgs (top 11), defBody (top 11), defScope (top 11)⟩
def d_4 : FD := ⟨4, "is_fraction", ["value"], ["value", "part"], defArgs (top 12), defBody (top 12), defScope (top 12)⟩
def d_29 : FD := ⟨29, "plus", ["one", "other"], ["one", "other"], defArgs (top 13), defBody (top 13), defScope (top 13)⟩
def d_54 : FD := ⟨54, "negative", ["one"], ["one"], defArgs (top 14), defBody (top 14), defScope (top 14)⟩
def d_55 : FD := ⟨55, "minus", ["one", "other"], ["one", "other"], defArgs (top 15), defBody (top 15), defScope (top 15)⟩
def d_30 : FD := ⟨30, "times", ["one", "other"], ["one", "other"], defArgs (top 16), defBody (top 16), defScope (top 16)⟩
def d_56 : FD := ⟨56, "over", ["one", "other"], ["one", "other"], defArgs (top 17), defBody (top 17), defScope (top 17)⟩
def d_31 : FD := ⟨31, "dot", ["one", "other"], ["one", "other", "found", "first", "second"], defArgs (top 19), defBody (top 19), defScope (top 19)⟩
def d_57 : FD := ⟨57, "less_times", ["vector", "factor", "other"], ["vector", "factor", "other", "one", "two"], defArgs (top 20), defBody (top 20), defScope (top 20)⟩
def d_58 : FD := ⟨58, "place_in", ["vector", "width"], ["vector", "width", "place"], defArgs (top 21), defBody (top 21), defScope (top 21)⟩
def d_59 : FD := ⟨59, "reduced", ["basis", "vector"], ["basis", "vector", "found", "place", "row"], defArgs (top 22), defBody (top 22), defScope (top 22)⟩
def d_60 : FD := ⟨60, "scaled", ["vector", "place"], ["vector", "place", "item"], defArgs (top 23), defBody (top 23), defScope (top 23)⟩
def d_61 : FD := ⟨61, "longer", ["basis", "vector", "width"], ["basis", "vector", "width", "found", "place"], defArgs (top 24), defBody (top 24), defScope (top 24)⟩
def d_5 : FD := ⟨5, "is_form", ["value", "size"], ["value", "size", "part"], defArgs (top 30), defBody (top 30), defScope (top 30)⟩
def d_6 : FD := ⟨6, "is_move", ["value", "size", "phases"], ["value", "size", "phases", "form"], defArgs (top 31), defBody (top 31), defScope (top 31)⟩
def d_7 : FD := ⟨7, "is_phase", ["value", "size", "phases"], ["value", "size", "phases", "move"], defArgs (top 32), defBody (top 32), defScope (top 32)⟩
def d_8 : FD := ⟨8, "is_make", ["value"], ["value", "start", "values", "phases", "phase", "one"], defArgs (top 33), defBody (top 33), defScope (top 33)⟩
def d_9 : FD := ⟨9, "need_make", ["make"], ["make"], defArgs (top 34), defBody (top 34), defScope (top 34)⟩
def d_10 : FD := ⟨10, "count_keys", ["make"], ["make"], defArgs (top 35), defBody (top 35), defScope (top 35)⟩
def d_11 : FD := ⟨11, "letters", ["make"], ["make"], defArgs (top 36), defBody (top 36), defScope (top 36)⟩
def d_62 : FD := ⟨62, "need_pair", ["one", "other"], ["one", "other"], defArgs (top 37), defBody (top 37), defScope (top 37)⟩
def d_34 : FD := ⟨34, "vector_of", ["form"], ["form", "part"], defArgs (top 38), defBody (top 38), defScope (top 38)⟩
def d_36 : FD := ⟨36, "move_of", ["make", "phase", "key"], ["make", "phase", "key"], defArgs (top 39), defBody (top 39), defScope (top 39)⟩
def d_38 : FD := ⟨38, "first_state", ["make"], ["make"], defArgs (top 40), defBody (top 40), defScope (top 40)⟩
def d_63 : FD := ⟨63, "behind_key", ["make", "phase", "key", "vector"], ["make", "phase", "key", "vector", "forms", "rows", "size", "found", "last", "form", "index", "row"], defArgs (top 41), defBody (top 41), defScope (top 41)⟩
def d_64 : FD := ⟨64, "pair_behind", ["one", "other", "pair", "key", "vector"], ["one", "other", "pair", "key", "vector", "size", "first"], defArgs (top 43), defBody (top 43), defScope (top 43)⟩
def d_65 : FD := ⟨65, "next_pair", ["one", "other", "pair", "key"], ["one", "other", "pair", "key", "place"], defArgs (top 44), defBody (top 44), defScope (top 44)⟩
def d_66 : FD := ⟨66, "shown_vector", ["one", "other", "pair"], ["one", "other", "pair", "second", "item"], defArgs (top 45), defBody (top 45), defScope (top 45)⟩
def d_67 : FD := ⟨67, "kept_pairs", ["one", "other"], ["one", "other", "pairs", "phase", "size", "bases", "kept", "fresh", "added", "pair", "row", "vector", "more", "second", "some"], defArgs (top 46), defBody (top 46), defScope (top 46)⟩
def d_68 : FD := ⟨68, "behind_all", ["one", "other", "pairs", "added"], ["one", "other", "pairs", "added", "found", "pair", "key", "there", "some", "row", "vector"], defArgs (top 47), defBody (top 47), defScope (top 47)⟩
def d_69 : FD := ⟨69, "parted", ["kept", "first", "second"], ["kept", "first", "second", "vector", "row", "difference"], defArgs (top 48), defBody (top 48), defScope (top 48)⟩
def d_70 : FD := ⟨70, "first_parting", ["one", "other"], ["one", "other"], defArgs (top 50), defBody (top 50), defScope (top 50)⟩
def d_71 : FD := ⟨71, "are_alike", ["one", "other"], ["one", "other"], defArgs (top 51), defBody (top 51), defScope (top 51)⟩
def d_72 : FD := ⟨72, "alike", ["one", "other"], ["one", "other"], defArgs (top 52), defBody (top 52), defScope (top 52)⟩
def d_73 : FD := ⟨73, "parting_row", ["one", "other"], ["one", "other"], defArgs (top 53), defBody (top 53), defScope (top 53)⟩
def d_74 : FD := ⟨74, "bound", ["one", "other"], ["one", "other"], defArgs (top 54), defBody (top 54), defScope (top 54)⟩
def d_13 : FD := ⟨13, "_law_source", ["script", "index"], ["script", "index", "cell"], defArgs (top 56), defBody (top 56), defScope (top 56)⟩
def d_14 : FD := ⟨14, "_law_draw", ["source", "size"], ["source", "size", "drawn"], defArgs (top 57), defBody (top 57), defScope (top 57)⟩
def d_15 : FD := ⟨15, "_law_choice", ["source", "items"], ["source", "items"], defArgs (top 58), defBody (top 58), defScope (top 58)⟩
def d_16 : FD := ⟨16, "_law_low", ["top", "bottom"], ["top", "bottom", "first", "second"], defArgs (top 59), defBody (top 59), defScope (top 59)⟩
def d_45 : FD := ⟨45, "_law_sum", ["one", "other"], ["one", "other"], defArgs (top 60), defBody (top 60), defScope (top 60)⟩
def d_46 : FD := ⟨46, "_law_times", ["one", "other"], ["one", "other"], defArgs (top 61), defBody (top 61), defScope (top 61)⟩
def d_17 : FD := ⟨17, "_law_shared", ["numbers"], ["numbers", "found", "number", "first", "second"], defArgs (top 62), defBody (top 62), defScope (top 62)⟩
def d_18 : FD := ⟨18, "_law_form", ["source", "size"], ["source", "size", "row", "index", "part", "number"], defArgs (top 63), defBody (top 63), defScope (top 63)⟩
def d_19 : FD := ⟨19, "_law_move", ["source", "size", "phases"], ["source", "size", "phases", "index"], defArgs (top 64), defBody (top 64), defScope (top 64)⟩
def d_20 : FD := ⟨20, "_law_make", ["source", "size", "phases", "count"], ["source", "size", "phases", "count", "rows", "phase", "values", "moves", "index", "key"], defArgs (top 65), defBody (top 65), defScope (top 65)⟩
def d_47 : FD := ⟨47, "_law_given", ["form", "values"], ["form", "values", "found", "factor", "value"], defArgs (top 66), defBody (top 66), defScope (top 66)⟩
def d_48 : FD := ⟨48, "_law_press", ["make", "here", "key"], ["make", "here", "key", "there", "forms", "form"], defArgs (top 67), defBody (top 67), defScope (top 67)⟩
def d_49 : FD := ⟨49, "_law_seen", ["make", "here"], ["make", "here"], defArgs (top 68), defBody (top 68), defScope (top 68)⟩
def d_75 : FD := ⟨75, "_law_lowest", ["row"], ["row", "part", "number"], defArgs (top 69), defBody (top 69), defScope (top 69)⟩
def d_76 : FD := ⟨76, "_law_mixed", ["form", "at", "other", "factor", "more"], ["form", "at", "other", "factor", "more", "row"], defArgs (top 70), defBody (top 70), defScope (top 70)⟩
def d_77 : FD := ⟨77, "_law_joined", ["one", "two", "factor", "more"], ["one", "two", "factor", "more", "row", "first", "second"], defArgs (top 71), defBody (top 71), defScope (top 71)⟩
def d_78 : FD := ⟨78, "_law_turned", ["source", "make"], ["source", "make", "at", "other", "grown", "start", "values", "phases", "factor", "more", "rows", "seen_so", "moves", "some", "there", "forms", "left", "form"], defArgs (top 72), defBody (top 72), defScope (top 72)⟩
def d_79 : FD := ⟨79, "_law_wider", ["source", "make"], ["source", "make", "start", "values", "phases", "size", "rows", "seen_so", "moves", "some", "there", "forms", "left", "form"], defArgs (top 73), defBody (top 73), defScope (top 73)⟩
def d_80 : FD := ⟨80, "_law_renamed", ["source", "make"], ["source", "make", "rows", "old", "start", "values", "phases", "names", "rest", "at", "moves", "there", "forms"], defArgs (top 74), defBody (top 74), defScope (top 74)⟩
def d_81 : FD := ⟨81, "_law_nudged", ["source", "make"], ["source", "make", "at", "forms", "place", "form", "row", "spot", "new", "start", "values", "phases", "seen_so", "moves", "key", "size", "phase", "move"], defArgs (top 75), defBody (top 75), defScope (top 75)⟩
def d_82 : FD := ⟨82, "_law_like", ["source", "make"], ["source", "make", "found", "turn", "way"], defArgs (top 76), defBody (top 76), defScope (top 76)⟩
def d_83 : FD := ⟨83, "_law_parts_at", ["one", "other", "most"], ["one", "other", "most", "level", "turn", "more_so", "row", "here", "there", "key"], defArgs (top 77), defBody (top 77), defScope (top 77)⟩
def d_84 : FD := ⟨84, "law", ["script"], ["script", "k", "one", "other", "source", "turn", "count", "due", "row", "found"], defArgs (top 78), defBody (top 78), defScope (top 78)⟩
def fs : List FD := [d_0, d_1, d_2, d_3, d_28, d_4, d_29, d_54, d_55, d_30, d_56, d_31, d_57, d_58, d_59, d_60, d_61, d_5, d_6, d_7, d_8, d_9, d_10, d_11, d_62, d_34, d_36, d_38, d_63, d_64, d_65, d_66, d_67, d_68, d_69, d_70, d_71, d_72, d_73, d_74, d_13, d_14, d_15, d_16, d_45, d_46, d_17, d_18, d_19, d_20, d_47, d_48, d_49, d_75, d_76, d_77, d_78, d_79, d_80, d_81, d_82, d_83, d_84]
def free : List Str := ["abs", "all", "bool", "dict", "int", "isinstance", "len", "list", "min", "range", "tuple", "zip"]
def con : List (Str × D) := [("LETTERS", (.str [97, 98, 99, 100, 101])), ("MOST_KEYS", (.int 5)), ("MOST_PHASES", (.int 5)), ("MOST_REGISTERS", (.int 4)), ("ONE", (.tup [(.int 1), (.int 1)])), ("ZERO", (.tup [(.int 0), (.int 1)]))]
def loose0 : List Str := ["MakeError", "InvalidMake", "InvalidPair", "ZERO", "ONE", "is_integer", "is_between", "divisor", "common", "lowest", "is_fraction", "plus", "negative", "minus", "times", "over", "dot", "less_times", "place_in", "reduced"]
def loose1 : List Str := ["scaled", "longer", "MOST_REGISTERS", "MOST_PHASES", "MOST_KEYS", "LETTERS", "is_form", "is_move", "is_phase", "is_make", "need_make", "count_keys", "letters", "need_pair", "vector_of", "move_of", "first_state", "behind_key", "pair_behind", "next_pair"]
def loose2 : List Str := ["shown_vector", "kept_pairs", "behind_all", "parted", "first_parting", "are_alike", "alike", "parting_row", "bound", "_law_source", "_law_draw", "_law_choice", "_law_low", "_law_sum", "_law_times", "_law_shared", "_law_form", "_law_move", "_law_make", "_law_given"]
def loose3 : List Str := ["_law_press", "_law_seen", "_law_lowest", "_law_mixed", "_law_joined", "_law_turned", "_law_wider", "_law_renamed", "_law_nudged", "_law_like", "_law_parts_at"]
def loose : List Str := loose0 ++ loose1 ++ loose2 ++ loose3
theorem pl_0 : plainA d_0 := plain_of' 1 rfl fun _ _ _ _ _ _ us hl => match us, hl with | [_], _ => rfl
theorem pl_1 : plainA d_1 := plain_of' 3 rfl fun _ _ _ _ _ _ us hl => match us, hl with | [_, _, _], _ => rfl
theorem pl_2 : plainA d_2 := plain_of' 2 rfl fun _ _ _ _ _ _ us hl => match us, hl with | [_, _], _ => rfl
theorem pl_3 : plainA d_3 := plain_of' 1 rfl fun _ _ _ _ _ _ us hl => match us, hl with | [_], _ => rfl
theorem pl_28 : plainA d_28 := plain_of' 2 rfl fun _ _ _ _ _ _ us hl => match us, hl with | [_, _], _ => rfl
theorem pl_4 : plainA d_4 := plain_of' 1 rfl fun _ _ _ _ _ _ us hl => match us, hl with | [_], _ => rfl
theorem pl_29 : plainA d_29 := plain_of' 2 rfl fun _ _ _ _ _ _ us hl => match us, hl with | [_, _], _ => rfl
theorem pl_54 : plainA d_54 := plain_of' 1 rfl fun _ _ _ _ _ _ us hl => match us, hl with | [_], _ => rfl
theorem pl_55 : plainA d_55 := plain_of' 2 rfl fun _ _ _ _ _ _ us hl => match us, hl with | [_, _], _ => rfl
theorem pl_30 : plainA d_30 := plain_of' 2 rfl fun _ _ _ _ _ _ us hl => match us, hl with | [_, _], _ => rfl
theorem pl_56 : plainA d_56 := plain_of' 2 rfl fun _ _ _ _ _ _ us hl => match us, hl with | [_, _], _ => rfl
theorem pl_31 : plainA d_31 := plain_of' 2 rfl fun _ _ _ _ _ _ us hl => match us, hl with | [_, _], _ => rfl
theorem pl_57 : plainA d_57 := plain_of' 3 rfl fun _ _ _ _ _ _ us hl => match us, hl with | [_, _, _], _ => rfl
theorem pl_58 : plainA d_58 := plain_of' 2 rfl fun _ _ _ _ _ _ us hl => match us, hl with | [_, _], _ => rfl
theorem pl_59 : plainA d_59 := plain_of' 2 rfl fun _ _ _ _ _ _ us hl => match us, hl with | [_, _], _ => rfl
theorem pl_60 : plainA d_60 := plain_of' 2 rfl fun _ _ _ _ _ _ us hl => match us, hl with | [_, _], _ => rfl
theorem pl_61 : plainA d_61 := plain_of' 3 rfl fun _ _ _ _ _ _ us hl => match us, hl with | [_, _, _], _ => rfl
theorem pl_5 : plainA d_5 := plain_of' 2 rfl fun _ _ _ _ _ _ us hl => match us, hl with | [_, _], _ => rfl
theorem pl_6 : plainA d_6 := plain_of' 3 rfl fun _ _ _ _ _ _ us hl => match us, hl with | [_, _, _], _ => rfl
theorem pl_7 : plainA d_7 := plain_of' 3 rfl fun _ _ _ _ _ _ us hl => match us, hl with | [_, _, _], _ => rfl
theorem pl_8 : plainA d_8 := plain_of' 1 rfl fun _ _ _ _ _ _ us hl => match us, hl with | [_], _ => rfl
theorem pl_9 : plainA d_9 := plain_of' 1 rfl fun _ _ _ _ _ _ us hl => match us, hl with | [_], _ => rfl
theorem pl_10 : plainA d_10 := plain_of' 1 rfl fun _ _ _ _ _ _ us hl => match us, hl with | [_], _ => rfl
theorem pl_11 : plainA d_11 := plain_of' 1 rfl fun _ _ _ _ _ _ us hl => match us, hl with | [_], _ => rfl
theorem pl_62 : plainA d_62 := plain_of' 2 rfl fun _ _ _ _ _ _ us hl => match us, hl with | [_, _], _ => rfl
theorem pl_34 : plainA d_34 := plain_of' 1 rfl fun _ _ _ _ _ _ us hl => match us, hl with | [_], _ => rfl
theorem pl_36 : plainA d_36 := plain_of' 3 rfl fun _ _ _ _ _ _ us hl => match us, hl with | [_, _, _], _ => rfl
theorem pl_38 : plainA d_38 := plain_of' 1 rfl fun _ _ _ _ _ _ us hl => match us, hl with | [_], _ => rfl
theorem pl_63 : plainA d_63 := plain_of' 4 rfl fun _ _ _ _ _ _ us hl => match us, hl with | [_, _, _, _], _ => rfl
theorem pl_64 : plainA d_64 := plain_of' 5 rfl fun _ _ _ _ _ _ us hl => match us, hl with | [_, _, _, _, _], _ => rfl
theorem pl_65 : plainA d_65 := plain_of' 4 rfl fun _ _ _ _ _ _ us hl => match us, hl with | [_, _, _, _], _ => rfl
theorem pl_66 : plainA d_66 := plain_of' 3 rfl fun _ _ _ _ _ _ us hl => match us, hl with | [_, _, _], _ => rfl
theorem pl_67 : plainA d_67 := plain_of' 2 rfl fun _ _ _ _ _ _ us hl => match us, hl with | [_, _], _ => rfl
theorem pl_68 : plainA d_68 := plain_of' 4 rfl fun _ _ _ _ _ _ us hl => match us, hl with | [_, _, _, _], _ => rfl
theorem pl_69 : plainA d_69 := plain_of' 3 rfl fun _ _ _ _ _ _ us hl => match us, hl with | [_, _, _], _ => rfl
theorem pl_70 : plainA d_70 := plain_of' 2 rfl fun _ _ _ _ _ _ us hl => match us, hl with | [_, _], _ => rfl
theorem pl_71 : plainA d_71 := plain_of' 2 rfl fun _ _ _ _ _ _ us hl => match us, hl with | [_, _], _ => rfl
theorem pl_72 : plainA d_72 := plain_of' 2 rfl fun _ _ _ _ _ _ us hl => match us, hl with | [_, _], _ => rfl
theorem pl_73 : plainA d_73 := plain_of' 2 rfl fun _ _ _ _ _ _ us hl => match us, hl with | [_, _], _ => rfl
theorem pl_74 : plainA d_74 := plain_of' 2 rfl fun _ _ _ _ _ _ us hl => match us, hl with | [_, _], _ => rfl
theorem pl_13 : plainA d_13 := plain_of' 2 rfl fun _ _ _ _ _ _ us hl => match us, hl with | [_, _], _ => rfl
theorem pl_14 : plainA d_14 := plain_of' 2 rfl fun _ _ _ _ _ _ us hl => match us, hl with | [_, _], _ => rfl
theorem pl_15 : plainA d_15 := plain_of' 2 rfl fun _ _ _ _ _ _ us hl => match us, hl with | [_, _], _ => rfl
theorem pl_16 : plainA d_16 := plain_of' 2 rfl fun _ _ _ _ _ _ us hl => match us, hl with | [_, _], _ => rfl
theorem pl_45 : plainA d_45 := plain_of' 2 rfl fun _ _ _ _ _ _ us hl => match us, hl with | [_, _], _ => rfl
theorem pl_46 : plainA d_46 := plain_of' 2 rfl fun _ _ _ _ _ _ us hl => match us, hl with | [_, _], _ => rfl
theorem pl_17 : plainA d_17 := plain_of' 1 rfl fun _ _ _ _ _ _ us hl => match us, hl with | [_], _ => rfl
theorem pl_18 : plainA d_18 := plain_of' 2 rfl fun _ _ _ _ _ _ us hl => match us, hl with | [_, _], _ => rfl
theorem pl_19 : plainA d_19 := plain_of' 3 rfl fun _ _ _ _ _ _ us hl => match us, hl with | [_, _, _], _ => rfl
theorem pl_20 : plainA d_20 := plain_of' 4 rfl fun _ _ _ _ _ _ us hl => match us, hl with | [_, _, _, _], _ => rfl
theorem pl_47 : plainA d_47 := plain_of' 2 rfl fun _ _ _ _ _ _ us hl => match us, hl with | [_, _], _ => rfl
theorem pl_48 : plainA d_48 := plain_of' 3 rfl fun _ _ _ _ _ _ us hl => match us, hl with | [_, _, _], _ => rfl
theorem pl_49 : plainA d_49 := plain_of' 2 rfl fun _ _ _ _ _ _ us hl => match us, hl with | [_, _], _ => rfl
theorem pl_75 : plainA d_75 := plain_of' 1 rfl fun _ _ _ _ _ _ us hl => match us, hl with | [_], _ => rfl
theorem pl_76 : plainA d_76 := plain_of' 5 rfl fun _ _ _ _ _ _ us hl => match us, hl with | [_, _, _, _, _], _ => rfl
theorem pl_77 : plainA d_77 := plain_of' 4 rfl fun _ _ _ _ _ _ us hl => match us, hl with | [_, _, _, _], _ => rfl
theorem pl_78 : plainA d_78 := plain_of' 2 rfl fun _ _ _ _ _ _ us hl => match us, hl with | [_, _], _ => rfl
theorem pl_79 : plainA d_79 := plain_of' 2 rfl fun _ _ _ _ _ _ us hl => match us, hl with | [_, _], _ => rfl
theorem pl_80 : plainA d_80 := plain_of' 2 rfl fun _ _ _ _ _ _ us hl => match us, hl with | [_, _], _ => rfl
theorem pl_81 : plainA d_81 := plain_of' 2 rfl fun _ _ _ _ _ _ us hl => match us, hl with | [_, _], _ => rfl
theorem pl_82 : plainA d_82 := plain_of' 2 rfl fun _ _ _ _ _ _ us hl => match us, hl with | [_, _], _ => rfl
theorem pl_83 : plainA d_83 := plain_of' 3 rfl fun _ _ _ _ _ _ us hl => match us, hl with | [_, _, _], _ => rfl
theorem pl_84 : plainA d_84 := plain_of' 1 rfl fun _ _ _ _ _ _ us hl => match us, hl with | [_], _ => rfl
theorem pl : PlAll fs := ⟨pl_0, pl_1, pl_2, pl_3, pl_28, pl_4, pl_29, pl_54, pl_55, pl_30, pl_56, pl_31, pl_57, pl_58, pl_59, pl_60, pl_61, pl_5, pl_6, pl_7, pl_8, pl_9, pl_10, pl_11, pl_62, pl_34, pl_36, pl_38, pl_63, pl_64, pl_65, pl_66, pl_67, pl_68, pl_69, pl_70, pl_71, pl_72, pl_73, pl_74, pl_13, pl_14, pl_15, pl_16, pl_45, pl_46, pl_17, pl_18, pl_19, pl_20, pl_47, pl_48, pl_49, pl_75, pl_76, pl_77, pl_78, pl_79, pl_80, pl_81, pl_82, pl_83, pl_84, trivial⟩
theorem ck_0 : ckD tab (fnsOf fs) free con d_0 = true := by kernel_rfl
theorem ck_1 : ckD tab (fnsOf fs) free con d_1 = true := by kernel_rfl
theorem ck_2 : ckD tab (fnsOf fs) free con d_2 = true := by kernel_rfl
theorem ck_3 : ckD tab (fnsOf fs) free con d_3 = true := by kernel_rfl
theorem ck_28 : ckD tab (fnsOf fs) free con d_28 = true := by kernel_rfl
theorem ck_4 : ckD tab (fnsOf fs) free con d_4 = true := by kernel_rfl
theorem ck_29 : ckD tab (fnsOf fs) free con d_29 = true := by kernel_rfl
theorem ck_54 : ckD tab (fnsOf fs) free con d_54 = true := by kernel_rfl
theorem ck_55 : ckD tab (fnsOf fs) free con d_55 = true := by kernel_rfl
theorem ck_30 : ckD tab (fnsOf fs) free con d_30 = true := by kernel_rfl
theorem ck_56 : ckD tab (fnsOf fs) free con d_56 = true := by kernel_rfl
theorem ck_31 : ckD tab (fnsOf fs) free con d_31 = true := by kernel_rfl
theorem ck_57 : ckD tab (fnsOf fs) free con d_57 = true := by kernel_rfl
theorem ck_58 : ckD tab (fnsOf fs) free con d_58 = true := by kernel_rfl
theorem ck_59 : ckD tab (fnsOf fs) free con d_59 = true := by kernel_rfl
theorem ck_60 : ckD tab (fnsOf fs) free con d_60 = true := by kernel_rfl
theorem ck_61 : ckD tab (fnsOf fs) free con d_61 = true := by kernel_rfl
theorem ck_5 : ckD tab (fnsOf fs) free con d_5 = true := by kernel_rfl
theorem ck_6 : ckD tab (fnsOf fs) free con d_6 = true := by kernel_rfl
theorem ck_7 : ckD tab (fnsOf fs) free con d_7 = true := by kernel_rfl
theorem ck_8 : ckD tab (fnsOf fs) free con d_8 = true := by kernel_rfl
theorem ck_9 : ckD tab (fnsOf fs) free con d_9 = true := by kernel_rfl
theorem ck_10 : ckD tab (fnsOf fs) free con d_10 = true := by kernel_rfl
theorem ck_11 : ckD tab (fnsOf fs) free con d_11 = true := by kernel_rfl
theorem ck_62 : ckD tab (fnsOf fs) free con d_62 = true := by kernel_rfl
theorem ck_34 : ckD tab (fnsOf fs) free con d_34 = true := by kernel_rfl
theorem ck_36 : ckD tab (fnsOf fs) free con d_36 = true := by kernel_rfl
theorem ck_38 : ckD tab (fnsOf fs) free con d_38 = true := by kernel_rfl
theorem ck_63 : ckD tab (fnsOf fs) free con d_63 = true := by kernel_rfl
theorem ck_64 : ckD tab (fnsOf fs) free con d_64 = true := by kernel_rfl
theorem ck_65 : ckD tab (fnsOf fs) free con d_65 = true := by kernel_rfl
theorem ck_66 : ckD tab (fnsOf fs) free con d_66 = true := by kernel_rfl
theorem ck_67 : ckD tab (fnsOf fs) free con d_67 = true := by kernel_rfl
theorem ck_68 : ckD tab (fnsOf fs) free con d_68 = true := by kernel_rfl
theorem ck_69 : ckD tab (fnsOf fs) free con d_69 = true := by kernel_rfl
theorem ck_70 : ckD tab (fnsOf fs) free con d_70 = true := by kernel_rfl
theorem ck_71 : ckD tab (fnsOf fs) free con d_71 = true := by kernel_rfl
theorem ck_72 : ckD tab (fnsOf fs) free con d_72 = true := by kernel_rfl
theorem ck_73 : ckD tab (fnsOf fs) free con d_73 = true := by kernel_rfl
theorem ck_74 : ckD tab (fnsOf fs) free con d_74 = true := by kernel_rfl
theorem ck_13 : ckD tab (fnsOf fs) free con d_13 = true := by kernel_rfl
theorem ck_14 : ckD tab (fnsOf fs) free con d_14 = true := by kernel_rfl
theorem ck_15 : ckD tab (fnsOf fs) free con d_15 = true := by kernel_rfl
theorem ck_16 : ckD tab (fnsOf fs) free con d_16 = true := by kernel_rfl
theorem ck_45 : ckD tab (fnsOf fs) free con d_45 = true := by kernel_rfl
theorem ck_46 : ckD tab (fnsOf fs) free con d_46 = true := by kernel_rfl
theorem ck_17 : ckD tab (fnsOf fs) free con d_17 = true := by kernel_rfl
theorem ck_18 : ckD tab (fnsOf fs) free con d_18 = true := by kernel_rfl
theorem ck_19 : ckD tab (fnsOf fs) free con d_19 = true := by kernel_rfl
theorem ck_20 : ckD tab (fnsOf fs) free con d_20 = true := by kernel_rfl
theorem ck_47 : ckD tab (fnsOf fs) free con d_47 = true := by kernel_rfl
theorem ck_48 : ckD tab (fnsOf fs) free con d_48 = true := by kernel_rfl
theorem ck_49 : ckD tab (fnsOf fs) free con d_49 = true := by kernel_rfl
theorem ck_75 : ckD tab (fnsOf fs) free con d_75 = true := by kernel_rfl
theorem ck_76 : ckD tab (fnsOf fs) free con d_76 = true := by kernel_rfl
theorem ck_77 : ckD tab (fnsOf fs) free con d_77 = true := by kernel_rfl
theorem ck_78 : ckD tab (fnsOf fs) free con d_78 = true := by kernel_rfl
theorem ck_79 : ckD tab (fnsOf fs) free con d_79 = true := by kernel_rfl
theorem ck_80 : ckD tab (fnsOf fs) free con d_80 = true := by kernel_rfl
theorem ck_81 : ckD tab (fnsOf fs) free con d_81 = true := by kernel_rfl
theorem ck_82 : ckD tab (fnsOf fs) free con d_82 = true := by kernel_rfl
theorem ck_83 : ckD tab (fnsOf fs) free con d_83 = true := by kernel_rfl
theorem ck_84 : ckD tab (fnsOf fs) free con d_84 = true := by kernel_rfl
theorem ck : fs.all (ckD tab (fnsOf fs) free con) = true :=
  List.all_eq_true.mpr (ckAll_all (show CkAll (fun d => ckD tab (fnsOf fs) free con d = true) fs from ⟨ck_0, ck_1, ck_2, ck_3, ck_28, ck_4, ck_29, ck_54, ck_55, ck_30, ck_56, ck_31, ck_57, ck_58, ck_59, ck_60, ck_61, ck_5, ck_6, ck_7, ck_8, ck_9, ck_10, ck_11, ck_62, ck_34, ck_36, ck_38, ck_63, ck_64, ck_65, ck_66, ck_67, ck_68, ck_69, ck_70, ck_71, ck_72, ck_73, ck_74, ck_13, ck_14, ck_15, ck_16, ck_45, ck_46, ck_17, ck_18, ck_19, ck_20, ck_47, ck_48, ck_49, ck_75, ck_76, ck_77, ck_78, ck_79, ck_80, ck_81, ck_82, ck_83, ck_84, trivial⟩))
abbrev hk : PySem.W.Hook := hookP 4 fs free con
def ob (s : PySem.W.SharedT) : He.AlD × Bool := obsP 4 fs free con (HandSHeadRun.getT s)
theorem ob_eq (s : PySem.W.SharedT) : ob s = hk.obs s.abs := obsP_eq (HandSHeadRun.getT_eq s)
abbrev R : PySem.W.OpenRow := PySem.W.OpenLaw.row PySem.Challenge.rw_pocketkeys_k03_whole_all_rows_below_the
theorem run (w : World) : HandSHeadRun.RunEq R (PySem.W.view R.prog [78]) hk ob 4000 loose w := by
  intro os
  kernel_rfl
end Rk03
open PySem PySem.W PySem.Calls PyProof.Rows
theorem k03_law_holds (law : ∀ ns : List Int, ns.length ≤ 63 → ∃ fr lt, PK.tab.sem 60 84 [.scr (ns.map PK.D.int)] = .ok (.bl true, fr, lt)) : PySem.Challenge.rw_pocketkeys_k03_whole_all_rows_below_the.Holds := by
  w_on; o_law
  refine HandSHeadRun.head_any (r := OpenLaw.row PySem.Challenge.rw_pocketkeys_k03_whole_all_rows_below_the) (q := view (OpenLaw.row PySem.Challenge.rw_pocketkeys_k03_whole_all_rows_below_the).prog [78]) (H := Rk03.hk) (ob := Rk03.ob) (M := 4000) (loose := Rk03.loose) (d := HandSHeadRun.topDef (OpenLaw.row PySem.Challenge.rw_pocketkeys_k03_whole_all_rows_below_the).prog 78) (kwd := []) Rk03.ob_eq
    (by kernel_rfl) (fun s => by kernel_rfl) Rk03.run (by kernel_rfl) (by kernel_rfl) (by kernel_rfl) (by rfl) (by first | assumption | decide +kernel) (by decide +kernel) ⟨rfl, rfl, rfl, rfl, rfl, by decide +kernel⟩ ?hw ?hc
  case hw => w_witness2
  case hc =>
    refine PK.walk_law (l := PySem.Challenge.rw_pocketkeys_k03_whole_all_rows_below_the) (m := 63) (n := 60) (Tb := PK.tab) (fs := Rk03.fs) (free := Rk03.free) (con := Rk03.con) (lw := Rk03.d_84) rfl (by decide) (by kernel_rfl) ⟨rfl, by decide, by decide⟩ (by kernel_rfl) rfl rfl (by kernel_rfl) ?hl rfl Rk03.ck Rk03.pl.all ?ht law
    case hl => exact List.mem_of_getElem? (i := 62) rfl
    case ht =>
      intro w mg h Y G
      obtain ⟨K, KX, c, cb⟩ := Y
      exact ⟨K, KX, fun base b1 b2 b3 => PK.told_of rfl KX G c cb b3⟩
end
set_option Elab.async false
set_option maxRecDepth 100000 in
set_option maxHeartbeats 0 in
theorem PySem.Challenge.cw_pocketkeys_k03_whole_all_rows_below_the_holds : PySem.Challenge.rw_pocketkeys_k03_whole_all_rows_below_the.Holds := by
  exact k03_law_holds PK.k03_law
